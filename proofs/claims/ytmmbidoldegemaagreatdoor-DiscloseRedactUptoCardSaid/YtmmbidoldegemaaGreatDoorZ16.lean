/- Part 17 of a proof; no conditions. -/
import Derived.Test.YtmmbidoldegemaaGreatDoorZ15
set_option linter.all false
set_option maxRecDepth 8000
set_option maxHeartbeats 8000000
namespace Go.Proofs.YtmmbidoldegemaaGreatDoor
open Go.RowKit Go.Sl Go.Proofs.Tryz
theorem Ql {S M} (w) (V:St S M w) (hG:Bu S) (cs ev) (hR:Z.R S cs ev) (hm:ev.2.2.1.length≤1000):
  Ac prog 43 [.agg cs.toArray] w fun u w'=>Fz Dg S M (FM ev) u w' :=
 (Y7 w V hG cs ev hR hm).mono fun u w' h=>by
  have h1:=Go.Sl.AY h;obtain ⟨S2,hS2,V,hu⟩:=St.freeze (α:=Dg) h (LB (T9 Hu _)) rfl;exact ⟨S2,hS2,hu,h1,V⟩
theorem bT {S M} (w) (V:St S M w) (hG:Bu S) (vl l) (hl:RSl S vl l) (i:Int) (h0:0≤i) (hi:i < l.length) (hm:l.length≤1000):
  Ac prog 42 [vl,.int .i64 i] w fun v w'=>∃ u,v=.tuple #[u,.int .i64 0]∧Fz Dg S M (Bk l i.toNat) u w':=by
 obtain ⟨i,rfl⟩:=Int.eq_ofNat_of_zero_le h0;refine (bU w V hG vl l hl i (by omega) hm).mono fun v w' ⟨u,hv,h⟩=>⟨u,hv,?_⟩
 have h1:=Go.Sl.AY h;obtain ⟨S2,hS2,V,hu⟩:=St.freeze (α:=Dg) h (LB (TG _ _)) rfl;exact ⟨S2,hS2,hu,h1,V⟩
theorem QT {m:Dg} (h:m.l.length=16):∃ a0 a1 a2 a3 a4 a5 a6 a7 a8 a9 b0 b1 b2 b3 b4 b5,m=⟨[a0,a1,a2,a3,a4,a5,a6,a7,a8,a9,b0,b1,b2,b3,b4,b5]⟩:=by
 obtain ⟨l⟩:=m
 match l,h with
 | [a0,a1,a2,a3,a4,a5,a6,a7,a8,a9,b0,b1,b2,b3,b4,b5],_=>exact ⟨a0,a1,a2,a3,a4,a5,a6,a7,a8,a9,b0,b1,b2,b3,b4,b5,rfl⟩
theorem OQ {P S M w fn} {R:Ending→World→Prop} {l d v1 v2 r1 r2} (V:St S (.obj d (.deferred (some []))::M) w) (hr:fn.results = #[r1,r2]) (hv1:∀ w',St S M w'→G0 P l w' r1 v1) (hv2:∀ w',St S M w'→G0 P l w' r2 v2) (hR:∀ w',St S M w'→R (.returned (.tuple #[v1,v2])) w'):bodyPostM Fence.wide 0 P fn R .ret ⟨l.toArray,[{ target:=.collected d,args:=#[] }]⟩ w:=by
 have hk:w.heap[d]? = some (.deferred (some [])):=V.at_ _ (.head _);have hst':=(V.putObj (o':=.deferred none)).drop;refine ⟨by simp,.inl ⟨d,_,rfl,run_takeDeferred hk,?_⟩⟩;refine ⟨.tuple #[v1,v2],?_,hR _ hst'⟩;have hn:∀ t,AV l t=l[t]?.getD undef:=fun t=>by simp [EI]
 have h1:=hv1 _ hst';have h2:=hv2 _ hst'
 cases r1<;>cases r2<;>simp only [G0,hn] at h1 h2<;>(try obtain ⟨ad1,h1,k1⟩:=h1)<;>(try obtain ⟨ad2,h2,k2⟩:=h2)<;>simp_all [results,asAddr]
theorem VA {α:Type} [Z α] {S v} {xs:List α} (h:RSl S v xs):∃ a n c,v=.slice a n c:=by
 rcases h with ⟨ad,cap,rfl,_⟩|⟨b,o,cap,c,T,fz,rfl,_⟩<;>exact ⟨_,_,_,rfl⟩
theorem sl_formk {S M w v T} {k z n:Nat} {c} (h:St S M w) (hk:M[k]? = some (.sl v T z n c)):∃ a n' c',v=.slice a n' c':=by
 rcases (h.get hk).2 with ⟨rfl,_⟩|⟨g,cap,cur,fz,rfl,_⟩<;>exact ⟨_,_,_,rfl⟩
theorem VI {S:Ad}:∀ {hs:List Hd},(∀ h∈hs,FN h)→RL S (cF GD hs) hs
 | [],_=>RL.nil
 | h::hs,hh=>by
  have:=(RL.one_mk (Dw (S:=S) (hh h (.head _)))).append (VI (S:=S) (hs:=hs) fun x hx=>hh x (.tail _ hx))
  simpa [cF] using this
def GJ (rv:List (Int×Int)) (k:Nat):List (Int×Int):=(rv.take k).reverse
abbrev Gm:List Value:=[.int .u8 0,.int .u8 0,.int .u8 0,.int .u8 0,.int .u8 0,.int .u8 0,.int .u8 0,.int .u8 0,.int .u8 0,.int .u8 0,.int .u8 0,.int .u8 0,.int .u8 0,.int .u8 0,.int .u8 0,.int .u8 0,.slice none 0 0,.slice none 0 0]
def TW (S:Ad) (M:List J) (m:Dg) (log:List Ev) (rv:List (Int×Int)) (v:Value) (w:World):Prop :=
 ∃ S',S.Le S'∧St S' M w∧match FE log [] rv with
  | none=>v=.tuple #[.agg Gm.toArray,.int .i64 1]
  | some ps=>∃ cs,v=.tuple #[.agg cs.toArray,.int .i64 0]∧Z.R S' cs ((m,log.map AE,ps,()):Cz)
def TX (S:Ad) (M:List J) (m:Dg) (log:List Ev) (rv:List (Int×Int)) (v:Value) (w:World):Prop :=
 ∃ S',S.Le S'∧match FE log [] rv with
  | none=>v=.tuple #[.agg Gm.toArray,.int .i64 1]∧St S' M w
  | some ps=>∃ uh up cp,v=.tuple #[.agg (u8s m.l++[uh,up]).toArray,.int .i64 0]∧RSl S' uh (log.map AE)∧RL S' cp ps∧St S' (.sl up 63 4 ps.length cp::M) w
theorem dh {S M m} (hm:m.l.length=16) {log rv v w} (h:TX S M m log rv v w):TW S M m log rv v w:=by
 obtain ⟨S',hS,h⟩:=h;unfold TW
 cases e:FE log [] rv with
 | none =>
  rw [e] at h;exact ⟨S',hS,h.2,h.1⟩
 | some ps =>
  rw [e] at h;obtain ⟨uh,up,cp,h1,h2,h3,V⟩:=h;obtain ⟨T1,hT1,V,hv1⟩:=St.freeze (α:=Pn) V h3 rfl;exact ⟨T1,hS.trans hT1,V,_,h1,AG (BL hm) (AG (cs:=[_]) ⟨_,rfl,h2.mono hT1⟩ (AG (cs:=[_]) ⟨_,rfl,hv1⟩ CM))⟩
theorem Od {log:List Ev} {rv:List (Int×Int)} {k:Nat} (hk:k < rv.length):FE log (GJ rv k) (rv.drop k)=if rv[k]∈GJ rv k∨rv[k].1 < 0∨log.length≤rv[k].1 then none else
  match log[rv[k].1.toNat]? with
  | none=>none
  | some e=>if rv[k].2 < 0∨e.2.2.1.length≤rv[k].2 then none else
   match FE log (GJ rv (k+1)) (rv.drop (k+1)) with
   | none=>none
   | some ps=>some ((rv[k].1,rv[k].2,e.2.2.1.getD rv[k].2.toNat 0,Bk (FM e) rv[k].2.toNat,())::ps):=by
 have e:GJ rv (k+1)=rv[k]::GJ rv k:=by
  unfold GJ;rw [List.take_succ_eq_append_getElem hk,List.reverse_append];rfl
 rw [List.drop_eq_getElem_cons hk,FE,e];all_goals rfl
theorem V6 {log rv k} (hk:k < rv.length) {f:List Pn→List Pn} (h:rv[k]∈GJ rv k∨rv[k].1 < 0∨log.length≤rv[k].1):(FE log (GJ rv k) (rv.drop k)).map f=none:=by
 rw [Od hk,if_pos h];rfl
theorem iP {log} {rv:List (Int×Int)} {k} (hk:k < rv.length) {f:List Pn→List Pn} {e} (he:log[rv[k].1.toNat]? = some e) (h:rv[k].2 < 0∨e.2.2.1.length≤rv[k].2):(FE log (GJ rv k) (rv.drop k)).map f=none:=by
 rw [Od hk,he];split
 ·rfl
 ·simp only [if_pos h];rfl
theorem iQ {log rv k} (hk:k < rv.length) {ps e} (he:log[rv[k].1.toNat]? = some e) (hn:rv[k] ∉ GJ rv k) (h1:0≤rv[k].1) (h2:rv[k].1 < log.length) (h3:0≤rv[k].2) (h4:rv[k].2 < e.2.2.1.length):
  (FE log (GJ rv k) (rv.drop k)).map (ps++·)=(FE log (GJ rv (k+1)) (rv.drop (k+1))).map ((ps++[(rv[k].1,rv[k].2,e.2.2.1.getD rv[k].2.toNat 0,Bk (FM e) rv[k].2.toNat,())])++·):=by
 rw [Od hk,he,if_neg (by rintro (h|h);exact hn h;omega)];simp only [if_neg (show ¬ (rv[k].2 < 0∨(e.2.2.1.length:Int)≤rv[k].2) by omega)]
 cases FE log (GJ rv (k+1)) (rv.drop (k+1)) with
 | none=>rfl
 | some qs=>simp
theorem Oe {rv k p}:IL p∈(rv.map IL).take k↔p∈GJ rv k:=by
 unfold GJ;rw [List.mem_reverse,← List.map_take];constructor
 ·intro h;obtain ⟨q,hq,he⟩:=List.mem_map.1 h;simp only [IL,Prod.mk.injEq] at he;have:q=p:=Prod.ext he.1 he.2.1;exact this▸hq
 ·intro h;exact List.mem_map.2 ⟨p,h,rfl⟩
abbrev KB (a0 a1 a2 a3 a4 a5 a6 a7 a8 a9 c0 c1 c2 c3 c4 c5:UInt8) (u p:Value):List Value:=[.int .u8 a0.toNat,.int .u8 a1.toNat,.int .u8 a2.toNat,.int .u8 a3.toNat,.int .u8 a4.toNat,.int .u8 a5.toNat,.int .u8 a6.toNat,.int .u8 a7.toNat,.int .u8 a8.toNat,.int .u8 a9.toNat,.int .u8 c0.toNat,.int .u8 c1.toNat,.int .u8 c2.toNat,.int .u8 c3.toNat,.int .u8 c4.toNat,.int .u8 c5.toNat,u,p]
theorem dG {h} (k:FN h):(GD h).length=66:=Z.len (S:=⟨default,fun _ _=>0,#[],fun _=>none⟩) (Dw k)
theorem Uj {log:List Ev} {k} (hk:k < log.length):(log.take (k+1)).map AE=(log.take k).map AE++[AE log[k]]:=by
 rw [List.take_succ_eq_append_getElem hk,List.map_append];rfl
set_option maxRecDepth 20000 in
theorem dg {S M} (w) (V:St S M w) (hG:Bu S) (m) (hm:m.l.length=16) (vl log) (hl:RSl S vl log) (hlen:log.length≤1000) (hok:∀ e∈log,JD e) (vr rv) (hr:RSl S vr rv) (hrl:rv.length≤1048576):
  Ac prog 16 [Cu m,vl,vr] w fun v w'=>TX S M m log rv v w':=by
 unfold Ac;have hl1:=hl.oneCell;have hr1:=hr.oneCell;obtain ⟨a0,a1,a2,a3,a4,a5,a6,a7,a8,a9,c0,c1,c2,c3,c4,c5,rfl⟩:=QT hm;refine Gz func16 rfl ?_;simp only [ntmps16,List.size_toArray,List.length_cons,List.length_nil,Nat.reduceAdd,Nat.reduceSub,Array.replicate_succ,Array.replicate_zero,List.push_toArray,List.append_toArray,List.nil_append,List.cons_append];repeat' ((apply ZZ 1);first|(apply O ();go_step)|(apply sC ();clear V;intro bx w V)|(apply sZ ();clear V;intro bk w V)|fail)
 rename_i n3 _ n4 _ _ n6 _ K0 hK0
 change St S (.box bk _ _::.box n6 _ _::.box bx vr.cells.toList _::.box n4 vl.cells.toList _::.box n3 _ _::M) w at V
 rw [Go.Sl.CS hl1,Go.Sl.CS hr1] at V;have hst0:=V.perm ((List.Perm.cons _ (List.Perm.swap _ _ _)).trans (List.Perm.swap _ _ _));clear V;obtain ⟨S1,hS1,V,hpr⟩:=AC (α:=List (Int×Int)) (x:=rv) hst0 (by exact ⟨vr,rfl,hr⟩) rfl;clear hst0;have hst0:=V.perm ((List.Perm.cons _ (List.Perm.swap _ _ _)).trans (List.Perm.swap _ _ _));clear V;obtain ⟨S2,hS2,V,hpl⟩:=AC (α:=List Ev) (x:=log) hst0 (by exact ⟨vl,rfl,hl.mono hS1⟩) rfl;clear hst0;generalize Value.pointer (some ⟨bx,0,none⟩)=pR at *;generalize Value.pointer (some ⟨n4,0,none⟩)=pL at *;replace hpr:=hpr.mono hS2;replace hG:=hG.mono (hS1.trans hS2);rename Nat=>n7
 repeat' (first|(apply tU ();with_unfolding_all refine Ag V (Dc (cs:=[.int .u8 a0.toNat,.int .u8 a1.toNat,.int .u8 a2.toNat,.int .u8 a3.toNat,.int .u8 a4.toNat,.int .u8 a5.toNat,.int .u8 a6.toNat,.int .u8 a7.toNat,.int .u8 a8.toNat,.int .u8 a9.toNat,.int .u8 c0.toNat,.int .u8 c1.toNat,.int .u8 c2.toNat,.int .u8 c3.toNat,.int .u8 c4.toNat,.int .u8 c5.toNat,.slice none 0 0,.slice none 0 0]) Y Y kr) ?_<;>apply nZ ())|(apply O ();go_step)|(apply tL ();refine Ag V (by exact BB X N.h Y FS) ?_<;>apply nZ ())|(apply tL ();refine An V (Aj X Ak Y) ?_;rintro v ⟨hvl,hv1⟩<;>apply nZ ())|apply sY ()|(apply sT ();clear V;intro w V)|(apply sZ ();clear V;intro bk w V)|fail)
 rename Nat=>n8
 have V:=V.nil 59 66
 go_loopw [20] (fun v wr=>∃ (k:Nat) (u:Value),k≤log.length∧v=.int .i64 k∧u.oneCell'=true∧St S2 (.sl u 59 66 k (cF GD ((log.take k).map AE))::.box n8 (KB a0 a1 a2 a3 a4 a5 a6 a7 a8 a9 c0 c1 c2 c3 c4 c5 u (.slice none 0 0)) 27::.box n7 [.int .i64 0] 31::.box n6 Gm 27::.box n3 (u8s [a0,a1,a2,a3,a4,a5,a6,a7,a8,a9,c0,c1,c2,c3,c4,c5]) 23::M) wr) (fun v _=>log.length - (intOf v).toNat)
 case atStart=>exact ⟨0,_,Nat.zero_le _,rfl,rfl,V⟩
 case round =>
  clear V;obtain ⟨k,u,hk,rfl,hu1,V⟩:=hrel;by_cases hlt:k < log.length
  ·obtain ⟨e1,e2,e3⟩:=hok _ (List.getElem_mem hlt);have hsn:=Lib.hid (Uj hlt);repeat' ((apply ZZ 5);first|(apply tS ();refine I4 V rfl N.h X Ak Y rfl rfl ?_;clear V;intro w V<;>apply nZ ()<;>(try replace V:=nH V))|(apply O ();go_step)|(apply tL ();refine An V (Aw X Ak Y) ?_;rintro v ⟨cl,rfl,hcl⟩<;>apply nZ ())|(apply sJ ();intro v L)|(apply sZ ();clear V;intro bk w V)|fail)
   have hst0:=V;clear V;obtain ⟨S3,hS3,V,hpv⟩:=AC (α:=Ev) hst0 hcl (Z.len hcl);clear hst0;generalize Value.pointer (some ⟨bk,0,none⟩)=pV at *;replace hG:=hG.mono hS3;have okH:FN (AE log[k]):=My hcl ⟨e1,e2,e3⟩;have cH:=fun {S:Ad} {M:List J} (w:World) (V:St S M w) (hG:Bu S) (cs:List Value) (hR:Z.R S cs log[k])=>Wr w V hG cs log[k] hR e1 e2 e3
   generalize AE log[k]=E at *;have hl66:=dG okH;generalize hcs0:cF GD ((log.take k).map AE)=cs0 at *;refine AD V kr ?_;clear V;intro ops;apply nZ ();refine td 0 rfl ?_;refine td 1 rfl ?_;refine tx 2 rfl (Aw X hpv Y) ?_;rintro v2 ⟨cl2,rfl,hcl2⟩;(refine AQ 3 rfl kr rfl (fun S' M' w hS hM V=>cH w V (hG.mono hS) cl2 (Z.mono hS hcl2)) Y rfl ?_)<;>apply nZ ()
   refine AP 4 rfl kr ?_;intro w V K G;refine Ay (vs:=[Wt E]) (cs:=GD E) V Y Y rfl rfl (by simp [Value.cells,hl66]) (by simp [Value.cells]) (by omega) (by omega) ?_;clear V;intro x4 w V;apply nZ ();(try replace V:=nH V);refine Bg G V (Ad.Le.refl _) (Suf.cons (Suf.refl _)) ?_;clear V G K;(try clear w);apply nZ ();refine AP 5 rfl kr ?_;intro w V K G;refine AF (j:=0) V X X SlIn.h rfl Y Y Y (Z.one (S:=S) (Dw okH)) (by omega) (by omega) (by decide) ?_;clear V;intro x5 w V;apply nZ ();(try replace V:=nH V);replace V:=V.drop;have hone5:=Go.Sl.AY V;refine Bb G V ?_;clear V G K;(try clear w);apply nZ ();refine td 6 rfl ?_;refine AP 7 rfl kr ?_;intro w V K G;(refine Go.Sl.G2 V rfl N.h X Ak Y (by simp<;>omega) ?_);clear V;intro w V;apply nZ ();(try replace V:=nH V);refine Bb G V ?_;clear V G K;(try clear w);apply nZ ();refine AJ kr ?_;clear ops;intro w V;repeat' (first|(apply O ();go_step)|fail)
   go_roundw
   case rel=>exact ⟨k+1,x5,by omega,by go_num,hone5,by rw [hsn.out,JU,hcs0];exact St.weaken hS3 V⟩
   case measure=>simp [intOf];omega
  ·obtain rfl:k=log.length:=by omega
   rw [List.take_length] at V;repeat' (first|(apply O ();go_step)|(apply kc ();refine sc (NG _ V (.func (.func 40) #[] #[pR]) rfl) ?_;clear V;rintro v w ⟨b4,rfl,V⟩)|fail)
   have hks:∀ k∈rv.map IL,UG k:=fun k hk=>by
    obtain ⟨p,L,rfl⟩:=List.mem_map.1 hk;obtain ⟨h1,h2⟩:=Oa hr p L;exact ⟨h1,h2⟩
   have hlenk:(rv.map IL).length=rv.length:=List.length_map _;have hit:=Mi (b:=b4) (S:=S2) (gf:=40) (lb:=[pR]) inferInstance hks (A:=fun k=>[]) (by rw [hlenk];exact di rv hrl _ hpr);have hst1:=V.perm (List.Perm.cons _ (List.perm_middle (l₁:=[]).symm));have V:=V.nil 63 4;have V:=V.perm (List.Perm.swap _ _ _)
   refine OM (A:=fun k=>.box b4 [.func (.func 40) #[] [pR].toArray] 154::[])
    (fun k T Nqq=>∃ up cp ps,Nqq=.sl up 63 4 k cp::.sl u 59 66 log.length (cF GD (log.map AE))::.box n8 (KB a0 a1 a2 a3 a4 a5 a6 a7 a8 a9 c0 c1 c2 c3 c4 c5 u up) 27::.box n7 [.int .i64 0] 31::.box n6 Gm 27::.box n3 (u8s [a0,a1,a2,a3,a4,a5,a6,a7,a8,a9,c0,c1,c2,c3,c4,c5]) 23::M∧up.oneCell'=true∧RL (α:=Pn) T cp ps∧ps.length=k∧Hid (FE log [] rv=(FE log (GJ rv k) (rv.drop k)).map (ps++·)))
    (fun T Nqq=>∃ d1 d2 d3 d4,Nqq=d1::d2::d3::.box n7 [.int .i64 1] 31::.box n6 Gm 27::d4::M∧FE log [] rv=none)
    V ⟨_,[],[],rfl,rfl,RL.nil,rfl,Lib.hid (by simp [GJ])⟩ rfl Y hit Y ?_ (by simp) (by simp) (by simp) (by decide) (by decide) (by decide) ?_ ?_ ?_
   ·rintro k vs ⟨x,hx,rfl⟩;exact ⟨Kz x,_,rfl,rfl,rfl⟩
   ·clear V;rintro r k b cs v S3 M3 C w hk ⟨x,hx,hvs⟩ hS3 ⟨up,cp,ps,rfl,hup,hRp,hpl3,hmk⟩ V;have hkl:k < rv.length:=by rw [hlenk] at hk;exact hk
    obtain rfl:x=IL rv[k]:=by rw [Of hkl] at hx;exact (Option.some.inj hx).symm
    obtain ⟨rfl,rfl⟩:cs=Kz (IL rv[k])∧v=.bool (!decide (IL rv[k]∈(rv.map IL).take k)):=by
     apply jv ()
    obtain ⟨hp1,hp2⟩:=Oa hr rv[k] (List.getElem_mem hkl);have hpl:=hpl.mono hS3;have hG:=hG.mono hS3;simp only [List.cons_append,List.nil_append,Kz,IL] at V;simp only [List.set_cons_succ,List.set_cons_zero];generalize hHC:cF GD (log.map AE)=HC at *
    cases hfr:(!decide (IL rv[k]∈(rv.map IL).take k)) with
    | false =>
     repeat' (first|go_skip|with_reducible refine Ek ?_|with_reducible refine GL ?_|with_reducible refine Mj ?_|with_reducible refine KD ?_|with_reducible refine wpIn_seq ?_|with_reducible refine wpIn_block ?_|with_reducible refine wpIn_ret ?_|with_reducible refine F0 ?_|with_reducible (refine Gp X ?_)|(apply tU ();with_unfolding_all refine Ag V (Dc (cs:=Gm) Y Y kr) ?_<;>apply nZ ())|(apply O ();go_step)|(apply sT ();clear V;intro w V)|fail)
     refine .inr ⟨rfl,S3,_,Ad.Le.refl _,⟨_,_,_,_,rfl,?_⟩,V.drop⟩;rw [hmk.out,V6 hkl (.inl (Oe.1 (by simpa using hfr)))]
    | true =>
     have hnew:rv[k] ∉ GJ rv k:=fun h=>by
      have:=Oe.2 h;simp [this] at hfr
     repeat' ((fail_if_success (with_reducible show Code.wpIn _ _ _ (Code.region 13 _ _) _ _ _));first|go_skip|apply sG ()|with_reducible refine Ek ?_|with_reducible refine GL ?_|with_reducible refine Mj ?_|with_reducible refine KD ?_|with_reducible refine wpIn_seq ?_|with_reducible refine wpIn_block ?_|with_reducible refine wpIn_ret ?_|with_reducible refine wpIn_skip ?_|with_reducible refine F0 ?_|with_reducible (refine Gp X ?_)|(with_reducible refine MF X ?_ ?_<;>intro hg<;>((try simp only [decide_eq_true_eq,decide_eq_false_iff_not,Bool.not_false,Bool.not_true,beq_iff_eq,beq_eq_false_iff_ne,ne_eq,Bool.not_eq_true',Bool.not_eq_false',bne_iff_ne,bne_eq_false_iff_eq] at hg)))|(apply tU ();with_unfolding_all refine Ag V (Dc (cs:=Gm) Y Y kr) ?_<;>apply nZ ())|(with_reducible refine Sl.k_guard ?_;refine Sl.guard_cases rfl ?_ ?_<;>intro hg<;>(simp only [hg,Bool.not_true,Bool.not_false])<;>(try replace hg:=gN hg)<;>apply nZ ())|(apply O ();go_step)|(apply tL ();refine An V (Aj X Ak Y) ?_;rintro v ⟨hvl,hv1⟩<;>apply nZ ())|apply sY ()|(apply sT ();clear V;intro w V)|fail)
     all_goals first
      | (refine .inr ⟨rfl,S3,_,Ad.Le.refl _,⟨_,_,_,_,rfl,?_⟩,V.drop⟩;rw [hmk.out,V6 hkl (.inr (by omega))])
      | skip
     have hjl:rv[k].1.toNat < log.length:=by omega
     have hee:=List.getElem?_eq_getElem hjl;obtain ⟨e1,e2,e3⟩:=hok _ (List.getElem_mem hjl);have hlv:(FM log[rv[k].1.toNat]).length=log[rv[k].1.toNat].2.2.1.length:=G9 _ _;by_cases hix:0≤rv[k].2∧rv[k].2 < log[rv[k].1.toNat].2.2.1.length
     ·skip
      refine KJ (.inr ⟨_,rfl⟩) Sj rfl V kr ?_;clear V;intro ops;apply nZ ();refine tx 0 rfl (Aj X hpl Y) ?_;rintro v0 ⟨hv0,hv01⟩;refine td 1 rfl ?_;refine td 2 rfl ?_;refine tx 3 rfl (Aq X hv0 rfl Y Y Af Af) ?_;rintro v3 hp3;refine tx 4 rfl (Aw X hp3 Y) ?_;rintro v4 ⟨cl4,rfl,hcl4⟩;refine td 6 rfl ?_;refine td 7 rfl ?_;refine AP 5 rfl kr ?_;intro w V K G;refine BG (Ql w V hG cl4 _ hcl4 e2) Y rfl ?_;clear V;rintro v5 w ⟨T5,hT5,hv5,hv51,V⟩;apply nZ ();(try replace V:=nH V);refine Bg G V hT5 (Suf.refl _) ?_;clear V G K;(try clear w);apply nZ ();refine AP 8 rfl kr ?_;intro w V K G;refine BG (bT w V (hG.mono hT5) v5 _ hv5 rv[k].2 hix.1 (by rw [hlv];exact hix.2) (by rw [hlv];exact e2)) Y rfl ?_;clear V;rintro v8 w ⟨uq,rfl,T8,hT8,hv8,hv81,V⟩;apply nZ ();(try replace V:=nH V);refine Bg G V hT8 (Suf.refl _) ?_;clear V G K;(try clear w);apply nZ ();refine td 9 rfl ?_;refine td 10 rfl ?_;refine td 11 rfl ?_;refine td 12 rfl ?_;refine td 13 rfl ?_;refine AJ kr ?_;clear ops;intro w V;have hpl:=hpl.mono (hT5.trans hT8);have V:=V.perm (List.perm_middle (l₁:=[_,_]));simp only [List.cons_append,List.nil_append] at V
      repeat' ((fail_if_success (with_reducible show Code.wpIn _ _ _ (Code.region 16 _ _) _ _ _));first|with_reducible refine Ek ?_|with_reducible refine GL ?_|with_reducible refine wpIn_seq ?_|with_reducible refine wpIn_skip ?_|with_reducible refine F0 ?_|with_reducible (refine MG X ?_)|(apply O ();go_step)|fail)
      obtain ⟨qa,qn,qc,rfl⟩:=VA hv8;have htl:rv[k].2.toNat < log[rv[k].1.toNat].2.2.1.length:=by omega
      refine KJ (.inr ⟨_,rfl⟩) Sj rfl V kr ?_;clear V;intro ops;apply nZ ();refine td 0 rfl ?_;refine td 1 rfl ?_;refine td 2 rfl ?_;refine td 3 rfl ?_;refine td 4 rfl ?_;refine td 5 rfl ?_;refine tx 6 rfl (Aj X hpl Y) ?_;rintro v6 ⟨hv6,hv61⟩;refine td 7 rfl ?_;refine td 8 rfl ?_;refine tx 9 rfl (Aq X hv6 rfl Y Y Af Af) ?_;rintro v9 hp9;refine tx 10 rfl (As X hp9 Y Y rfl) ?_;rintro v10 hp10;refine tx 11 rfl (Aj X hp10 Y) ?_;rintro v11 ⟨hv11,hv111⟩;refine td 12 rfl ?_;refine td 13 rfl ?_;refine tx 14 rfl (Aq X hv11 rfl Y Y Af Af) ?_;rintro v14 hp14;refine tx 15 rfl (Am X hp14 Y) ?_;rintro v15 ⟨rfl,hI15⟩;refine td 16 rfl ?_;refine tq 17 rfl (Dc (cs:=[.int .i64 rv[k].1,.int .i64 rv[k].2,.int .i64 log[rv[k].1.toNat].2.2.1[rv[k].2.toNat],.slice qa qn qc]) Y Y kr) ?_;refine AP 18 rfl kr ?_;intro w V K G;refine Ay (vs:=[.agg #[.int .i64 rv[k].1,.int .i64 rv[k].2,.int .i64 log[rv[k].1.toNat].2.2.1[rv[k].2.toNat],.slice qa qn qc]]) (cs:=[.int .i64 rv[k].1,.int .i64 rv[k].2,.int .i64 log[rv[k].1.toNat].2.2.1[rv[k].2.toNat],.slice qa qn qc]) V Y Y rfl rfl (by simp [Value.cells]) (by simp [Value.cells]) (by omega) (by omega) ?_;clear V;intro x18 w V;apply nZ ();(try replace V:=nH V);refine Bg G V (Ad.Le.refl _) (Suf.cons (Suf.refl _)) ?_;clear V G K;(try clear w);apply nZ ()
      refine AP 19 rfl kr ?_;intro w V K G;refine AF (j:=0) V X X SlIn.h rfl Y Y Y ((by intro q hq;simp only [List.mem_cons,List.not_mem_nil,or_false] at hq;rcases hq with rfl|rfl|rfl|rfl<;>rfl)) (by omega) (by omega) (by decide) ?_;clear V;intro x19 w V;apply nZ ();(try replace V:=nH V);replace V:=V.drop;have hone19:=Go.Sl.AY V;refine Bb G V ?_;clear V G K;(try clear w);apply nZ ();refine td 20 rfl ?_;refine AP 21 rfl kr ?_;intro w V K G;(refine Go.Sl.G2 V rfl N.h X Ak Y (by simp<;>omega) ?_);clear V;intro w V;apply nZ ();(try replace V:=nH V);refine Bb G V ?_;clear V G K;(try clear w);apply nZ ();refine AJ kr ?_;clear ops;intro w V;repeat' (first|with_reducible refine Xr ?_|fail)
      have hRpt:Z.R T8 [.int .i64 rv[k].1,.int .i64 rv[k].2,.int .i64 log[rv[k].1.toNat].2.2.1[rv[k].2.toNat],.slice qa qn qc] ((rv[k].1,rv[k].2,log[rv[k].1.toNat].2.2.1.getD rv[k].2.toNat 0,Bk (FM log[rv[k].1.toNat]) rv[k].2.toNat,()):Pn):=by
       refine AG (cs:=[_]) ⟨rfl,hp1⟩ (AG (cs:=[_]) ⟨rfl,hp2⟩ (AG (cs:=[_]) ⟨?_,?_⟩ (AG (cs:=[_]) ⟨_,rfl,hv8⟩ CM)))
       ·rw [List.getD_eq_getElem?_getD,List.getElem?_eq_getElem htl];rfl
       ·rw [List.getD_eq_getElem?_getD,List.getElem?_eq_getElem htl];exact hI15
      refine .inl ⟨rfl,⟨_,Of hkl,fun h=>hnew (Oe.1 h)⟩,T8,_,hT5.trans hT8,⟨x19,_,ps++[_],rfl,hone19,(hRp.mono (hT5.trans hT8)).append (RL.one_mk hRpt),by rw [List.length_append,hpl3];rfl,Lib.hid (hmk.out.trans (iQ hkl hee hnew (by omega) (by omega) hix.1 hix.2))⟩,?_⟩;exact (V.perm (List.perm_middle (l₁:=[_,_])).symm).drop
     ·skip
      refine KJ (.inr ⟨_,rfl⟩) Sj rfl V kr ?_;clear V;intro ops;apply nZ ();refine tx 0 rfl (Aj X hpl Y) ?_;rintro v0 ⟨hv0,hv01⟩;refine td 1 rfl ?_;refine td 2 rfl ?_;refine tx 3 rfl (Aq X hv0 rfl Y Y Af Af) ?_;rintro v3 hp3;refine tx 4 rfl (Aw X hp3 Y) ?_;rintro v4 ⟨cl4,rfl,hcl4⟩;refine td 6 rfl ?_;refine td 7 rfl ?_;refine AP 5 rfl kr ?_;intro w V K G;refine BG (Ql w V hG cl4 _ hcl4 e2) Y rfl ?_;clear V;rintro v5 w ⟨T5,hT5,hv5,hv51,V⟩;apply nZ ();(try replace V:=nH V);refine Bg G V hT5 (Suf.refl _) ?_;clear V G K;(try clear w);apply nZ ();refine AP 8 rfl kr ?_;intro w V K G;refine BG (YJ w V v5 _ hv5 rv[k].2 (by omega) (by rw [hlv];exact e2)) Y rfl ?_;clear V;rintro v8 w ⟨rfl,V⟩;apply nZ ();(try replace V:=nH V);refine Bg G V (Ad.Le.refl _) (Suf.refl _) ?_;clear V G K;(try clear w);apply nZ ();refine td 9 rfl ?_;refine td 10 rfl ?_;refine td 11 rfl ?_;refine td 12 rfl ?_;refine td 13 rfl ?_;refine AJ kr ?_;clear ops;intro w V;repeat' (first|with_reducible refine Ek ?_|with_reducible refine GL ?_|with_reducible refine Mj ?_|with_reducible refine KD ?_|with_reducible refine wpIn_seq ?_|with_reducible refine wpIn_ret ?_|with_reducible refine F0 ?_|with_reducible (refine Gp X ?_)|(apply tU ();with_unfolding_all refine Ag V (Dc (cs:=Gm) Y Y kr) ?_<;>apply nZ ())|(apply O ();go_step)|(apply sT ();clear V;intro w V)|fail)
      refine .inr ⟨rfl,T5,_,hT5,⟨_,_,_,_,rfl,?_⟩,V.drop⟩;rw [hmk.out,iP hkl hee (by omega)]
   ·clear V;rintro d S3 M3 w hS3 ⟨up,cp,ps,rfl,hup,hRp,hpl3,hmk⟩ V;simp only [List.cons_append,List.nil_append] at V;obtain ⟨p1,p2,p3,rfl⟩:=sl_formk (k:=2) V rfl;obtain ⟨q1,q2,q3,rfl⟩:=sl_formk (k:=3) V rfl;have hmk:=hmk.out;rw [hlenk,List.drop_length,FE] at hmk;simp only [Option.map_some,List.append_nil] at hmk
    have hok2:∀ h∈log.map AE,FN h:=fun h hh=>by
     obtain ⟨e,he,rfl⟩:=List.mem_map.1 hh;obtain ⟨cs,hR⟩:=N2 hl e he;exact My hR (hok e he)
    repeat' (first|(apply O ();go_step)|(apply tL ();refine Ag V (by exact BB X N.h Y FS) ?_<;>apply nZ ())|(apply sT ();clear V;intro w V)|fail)
    refine OQ V rfl (fun w' hst'=>AZ hst' rfl _ N.h Y rfl rfl) (fun w' hst'=>AZ hst' rfl _ N.h Y rfl rfl) fun w' hst'=>?_
    refine ⟨_,rfl,?_⟩;unfold TX;rw [hmk];have hst2:=hst'.drop;have hst3:=hst2.perm (List.Perm.swap _ _ _);obtain ⟨T2,hT2,hst4,hv2⟩:=St.freeze (α:=Hd) hst3 (VI hok2) (by simp);refine ⟨T2,((hS1.trans hS2).trans hS3).trans hT2,_,_,cp,rfl,hv2,hRp.mono hT2,?_⟩;have hst5:=(hst4.perm (List.Perm.swap _ _ _)).drop;have hst6:=(hst5.perm (List.Perm.swap _ _ _)).drop;have hst7:=(hst6.perm (List.Perm.swap _ _ _)).drop;have hst8:=(hst7.perm (List.Perm.swap _ _ _)).drop;rw [hpl3];exact hst8
   ·clear V;rintro d k S3 M3 w hk hS3 ⟨d1,d2,d3,d4,rfl,hno⟩ V;simp only [List.cons_append,List.nil_append] at V;repeat' (first|(apply O ();go_step)|fail)
    refine OQ V rfl (fun w' hst'=>AZ hst' rfl _ N.h Y rfl rfl) (fun w' hst'=>AZ hst' rfl _ N.h Y rfl rfl) fun w' hst'=>⟨_,rfl,S,Ad.Le.refl _,?_⟩
    rw [hno];exact ⟨rfl,St.weaken ((hS1.trans hS2).trans hS3) hst'.drop.drop.drop.drop.drop.drop.drop⟩
theorem V9 {S M} (w) (V:St S M w) (hG:Bu S) (m) (hm:m.l.length=16) (vl log) (hl:RSl S vl log) (hlen:log.length≤1000) (hok:∀ e∈log,JD e) (vr rv) (hr:RSl S vr rv) (hrl:rv.length≤1048576):
  Ac prog 16 [Cu m,vl,vr] w fun v w'=>TW S M m log rv v w' :=
 (dg w V hG m hm vl log hl hlen hok vr rv hr hrl).mono fun _ _ h=>dh hm h
theorem WR {hs:List Hd}:∀ (ps:List Pn) (bf:List (Int×Int)),CX hs bf ps=0→∀ p∈ps,0≤p.1∧∃ h,hs[p.1.toNat]? = some h∧0≤p.2.1∧p.2.1 < h.2.2.1∧Cj h.2.2.2.1 h.2.2.1.toNat p.2.1.toNat (BX p.2.1 p.2.2.1) p.2.2.2.1=true
 | [],_,_,_,L=>by cases L
 | q::ps,bf,h,p,L=>by
  simp only [CX] at h;split at h
  ·cases h
  ·rename_i hc;split at h
   ·cases h
   ·rename_i hd he;split at h
    ·cases h
    ·rename_i hk;split at h
     ·rename_i hv;rcases List.mem_cons.1 L with rfl|L
      ·have hc':=fun x=>hc (.inr x)
       exact ⟨by omega,hd,he,by omega,by omega,hv⟩
      ·exact WR ps _ h p L
     ·cases h
section
variable {α:Type}
def fz (n:Nat) (k:Nat→α):α:=Nat.rec (k 0) (fun m _=>k (m+1)) n
theorem Um (n) (k:Nat→α):fz n k=k n:=by cases n<;>rfl
def H4 (x:UInt32) (k:UInt32→α):α:=fz x.toNat fun n=>k (UInt32.ofNat n)
theorem IQ (x) (k:UInt32→α):H4 x k=k x:=by rw [H4,Um,UInt32.ofNat_toNat]
def gn (x:UInt8) (k:UInt8→α):α:=fz x.toNat fun n=>k (UInt8.ofNat n)
theorem gm (x) (k:UInt8→α):gn x k=k x:=by rw [gn,Um,UInt8.ofNat_toNat]
def Qy:List UInt32→(List UInt32→α)→α
 | [],k=>k []
 | x::r,k=>H4 x fun x=>Qy r fun r=>k (x::r)
theorem Om:∀ (l:List UInt32) (k:List UInt32→α),Qy l k=k l
 | [],_=>rfl
 | x::r,k=>by rw [Qy,IQ,Om r]
def MA:List UInt8→(List UInt8→α)→α
 | [],k=>k []
 | x::r,k=>gn x fun x=>MA r fun r=>k (x::r)
theorem JT:∀ (l:List UInt8) (k:List UInt8→α),MA l k=k l
 | [],_=>rfl
 | x::r,k=>by rw [MA,gm,JT r]
def Ww (s:S8) (k:S8→α):α:=H4 s.a fun a=>H4 s.b fun b=>H4 s.c fun c=>H4 s.d fun d=>H4 s.e fun e=>H4 s.f fun f=>H4 s.g fun g=>H4 s.h fun h=>k ⟨a,b,c,d,e,f,g,h⟩
theorem Qz (s) (k:S8→α):Ww s k=k s:=by simp only [Ww,IQ]
def KP (blk:List UInt8):Nat→(List UInt32→α)→α
 | 0,k=>Qy (List.replicate 64 0) k
 | n+1,k=>KP blk n fun ws=>H4 (MX blk ws n) fun x=>Qy (ws.set n x) k
theorem OK (blk:List UInt8):∀ (n:Nat) (k:List UInt32→α),KP blk n k=k (Fq blk n)
 | 0,k=>by rw [KP,Om,Fq]
 | n+1,k=>by rw [KP,OK blk n,IQ,Om,Fq]
def JK (w:List UInt32) (s:S8):Nat→(S8→α)→α
 | 0,k=>Ww s k
 | n+1,k=>JK w s n fun s=>H4 (Il.getD n 0) fun kk=>H4 (w.getD n 0) fun x=>H4 (fX s kk x) fun t=>H4 (jj s) fun u=>Ww ⟨t+u,s.a,s.b,s.c,s.d+t,s.e,s.f,s.g⟩ k
theorem M8 (w:List UInt32) (s:S8):∀ (n:Nat) (k:S8→α),JK w s n k=k (IE w s n)
 | 0,k=>by rw [JK,Qz,IE]
 | n+1,k=>by rw [JK,M8 w s n,IQ,IQ,IQ,IQ,Qz,IE];rfl
def LQ (m:List UInt8):Nat→(S8→α)→α
 | 0,k=>k Gf
 | n+1,k=>LQ m n fun s=>MA ((m.drop (64 * n)).take 64) fun b=>KP b 64 fun w=>JK w s 64 fun t=>Ww (g7 t s) k
theorem NK (m:List UInt8):∀ (n:Nat) (k:S8→α),LQ m n k=k (IW m n)
 | 0,k=>rfl
 | n+1,k=>by rw [LQ,NK m n,JT,OK,M8,Qz];rfl
def Ul (b:List UInt8) (k:List UInt8→α):α:=MA (FL b) fun m=>fz (m.length / 64) fun n=>LQ m n fun s=>MA (P7 s) k
theorem Zq (b) (k:List UInt8→α):Ul b k=k (IP b):=by
 rw [Ul,JT,Um,NK,JT];rfl
end
def He {α:Type} (tag:Int) (parts:List (List UInt8)) (k:List UInt8→α):α:=Ul (UInt8.ofNat tag.toNat::Fr parts) fun h=>MA (h.take 16) k
theorem Zy {α:Type} (tag parts) (k:List UInt8→α):He tag parts k=k (DO tag parts):=by
 rw [He,Zq,JT];rfl
def Gn:Dg:=⟨[9,0,0,0,0,0,0,0,0,0,0,0,0,0,0,0]⟩
end Go.Proofs.YtmmbidoldegemaaGreatDoor
