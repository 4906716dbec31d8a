/- Part 19 of the proof that the law of the last part holds; no conditions. -/
import Derived.Test.YtmmbidoldegemaaGreatDoorZ17
set_option linter.unusedSimpArgs false
set_option linter.unusedVariables false
set_option maxRecDepth 8000
set_option maxHeartbeats 8000000
namespace Go.Proofs.YtmmbidoldegemaaGreatDoor
open Go.RowKit Go.Sl
theorem Ph {S M} (w:World) (hst:St S M w) (hG:Bo S) (cs:List Value) (ev:Ev) (hR:Rep.R S cs ev) (hm:ev.2.2.1.length≤1000) :
  Ad Tryz.prog 43 [.agg cs.toArray] w fun u w'=>Fz Dg S M (GO ev) u w' :=
 (XI w hst hG cs ev hR hm).mono fun u w' h=>by
  have h1:=AW h;obtain ⟨S2,hS2,hst,hu⟩:=St.freeze (α:=Dg) h (KM (SE GP _)) rfl;exact ⟨S2,hS2,hu,h1,hst⟩
theorem ZG {S M} (w:World) (hst:St S M w) (hG:Bo S) (vl:Value) (l:List Dg) (hl:RSl S vl l) (i:Int) (h0:0≤i) (hi:i < l.length) (hm:l.length≤1000) :
  Ad Tryz.prog 42 [vl,.int .i64 i] w fun v w'=>∃ u,v=.tuple #[u,.int .i64 0]∧Fz Dg S M (Be l i.toNat) u w':=by
 obtain ⟨i,rfl⟩:=Int.eq_ofNat_of_zero_le h0;refine (ZH w hst hG vl l hl i (by omega) hm).mono fun v w' ⟨u,hv,h⟩=>⟨u,hv,?_⟩
 have h1:=AW h;obtain ⟨S2,hS2,hst,hu⟩:=St.freeze (α:=Dg) h (KM (Sk _ _)) rfl;exact ⟨S2,hS2,hu,h1,hst⟩
theorem LM {m:Dg} (h:m.l.length=16):∃ a0 a1 a2 a3 a4 a5 a6 a7 a8 a9 b0 b1 b2 b3 b4 b5,m=⟨[a0,a1,a2,a3,a4,a5,a6,a7,a8,a9,b0,b1,b2,b3,b4,b5]⟩:=by
 obtain ⟨l⟩:=m
 match l,h with
 | [a0,a1,a2,a3,a4,a5,a6,a7,a8,a9,b0,b1,b2,b3,b4,b5],_=>exact ⟨a0,a1,a2,a3,a4,a5,a6,a7,a8,a9,b0,b1,b2,b3,b4,b5,rfl⟩
theorem NS {P:Program} {S:Ac} {M:List Chunk} {w:World} {fn:Func} {R:Ending→World→Prop} {l:List Value} {d:Nat} {v1 v2:Value} {r1 r2:ResultVar} (hst:St S (.obj d (.deferred (some []))::M) w) (hr:fn.results = #[r1,r2])
  (hv1:∀ w',St S M w'→Gr P l w' r1 v1) (hv2:∀ w',St S M w'→Gr P l w' r2 v2) (hR:∀ w',St S M w'→R (.returned (.tuple #[v1,v2])) w'):bodyPostM Fence.wide 0 P fn R .ret ⟨l.toArray,[{ target:=.collected d,args:=#[] }]⟩ w:=by
 have hk:w.heap[d]? = some (.deferred (some [])):=hst.at_ _ (.head _);have hst':=(hst.putObj (o':=.deferred none)).drop;refine ⟨by simp,.inl ⟨d,_,rfl,run_takeDeferred hk,?_⟩⟩;refine ⟨.tuple #[v1,v2],?_,hR _ hst'⟩;have hn:∀ t,AX l t=l[t]?.getD undef:=fun t=>by simp [Ek]
 have h1:=hv1 _ hst';have h2:=hv2 _ hst'
 cases r1<;>cases r2<;>simp only [Gr,hn] at h1 h2<;>(try obtain ⟨ad1,h1,k1⟩:=h1)<;>(try obtain ⟨ad2,h2,k2⟩:=h2)<;>simp_all [results,asAddr]
theorem Ut {α:Type} [Rep α] {S:Ac} {v:Value} {xs:List α} (h:RSl S v xs):∃ a n c,v=.slice a n c:=by
 rcases h with ⟨ad,cap,rfl,_⟩|⟨b,o,cap,c,T,fz,rfl,_⟩<;>exact ⟨_,_,_,rfl⟩
theorem sl_formk {S:Ac} {M:List Chunk} {w:World} {v:Value} {T:TypeId} {k z n:Nat} {c:List Value} (h:St S M w) (hk:M[k]? = some (.sl v T z n c)):∃ a n' c',v=.slice a n' c':=by
 rcases (h.get hk).2 with ⟨rfl,_⟩|⟨g,cap,cur,fz,rfl,_⟩<;>exact ⟨_,_,_,rfl⟩
theorem UC {S:Ac}:∀ {hs:List Hd},(∀ h∈hs,Fo h)→RL S (cF F6 hs) hs
 | [],_=>RL.nil
 | h::hs,hh=>by
  have:=(RL.one_mk (CS (S:=S) (hh h (.head _)))).append (UC (S:=S) (hs:=hs) fun x hx=>hh x (.tail _ hx))
  simpa [cF] using this
def Gc (rv:List (Int×Int)) (k:Nat):List (Int×Int):=(rv.take k).reverse
abbrev DO:List Value:=[.int .u8 0,.int .u8 0,.int .u8 0,.int .u8 0,.int .u8 0,.int .u8 0,.int .u8 0,.int .u8 0,.int .u8 0,.int .u8 0,.int .u8 0,.int .u8 0,.int .u8 0,.int .u8 0,.int .u8 0,.int .u8 0,.slice none 0 0,.slice none 0 0]
def SA (S:Ac) (M:List Chunk) (m:Dg) (log:List Ev) (rv:List (Int×Int)) (v:Value) (w:World):Prop :=
 ∃ S',S.Le S'∧St S' M w∧match Fs log [] rv with
  | none=>v=.tuple #[.agg DO.toArray,.int .i64 1]
  | some ps=>∃ cs,v=.tuple #[.agg cs.toArray,.int .i64 0]∧Rep.R S' cs ((m,log.map AE,ps,()):Br)
def SB (S:Ac) (M:List Chunk) (m:Dg) (log:List Ev) (rv:List (Int×Int)) (v:Value) (w:World):Prop :=
 ∃ S',S.Le S'∧match Fs log [] rv with
  | none=>v=.tuple #[.agg DO.toArray,.int .i64 1]∧St S' M w
  | some ps=>∃ uh up cp,v=.tuple #[.agg (u8s m.l++[uh,up]).toArray,.int .i64 0]∧RSl S' uh (log.map AE)∧RL S' cp ps∧St S' (.sl up 63 4 ps.length cp::M) w
theorem ZV {S:Ac} {M:List Chunk} {m:Dg} (hm:m.l.length=16) {log:List Ev} {rv:List (Int×Int)} {v:Value} {w:World} (h:SB S M m log rv v w):SA S M m log rv v w:=by
 obtain ⟨S',hS,h⟩:=h;unfold SA
 cases e:Fs log [] rv with
 | none =>
  rw [e] at h;exact ⟨S',hS,h.2,h.1⟩
 | some ps =>
  rw [e] at h;obtain ⟨uh,up,cp,h1,h2,h3,hst⟩:=h;obtain ⟨T1,hT1,hst,hv1⟩:=St.freeze (α:=Pn) hst h3 rfl;exact ⟨T1,hS.trans hT1,hst,_,h1,Ay (Bi hm) (Ay (cs:=[_]) ⟨_,rfl,h2.mono hT1⟩ (Ay (cs:=[_]) ⟨_,rfl,hv1⟩ Cf))⟩
theorem Ng {log:List Ev} {rv:List (Int×Int)} {k:Nat} (hk:k < rv.length):Fs log (Gc rv k) (rv.drop k)=if rv[k]∈Gc rv k∨rv[k].1 < 0∨log.length≤rv[k].1 then none else
  match log[rv[k].1.toNat]? with
  | none=>none
  | some e=>if rv[k].2 < 0∨e.2.2.1.length≤rv[k].2 then none else
   match Fs log (Gc rv (k+1)) (rv.drop (k+1)) with
   | none=>none
   | some ps=>some ((rv[k].1,rv[k].2,e.2.2.1.getD rv[k].2.toNat 0,Be (GO e) rv[k].2.toNat,())::ps):=by
 have e:Gc rv (k+1)=rv[k]::Gc rv k:=by
  unfold Gc;rw [List.take_succ_eq_append_getElem hk,List.reverse_append];rfl
 rw [List.drop_eq_getElem_cons hk,Fs,e];all_goals rfl
theorem UX {log:List Ev} {rv:List (Int×Int)} {k:Nat} (hk:k < rv.length) {f:List Pn→List Pn} (h:rv[k]∈Gc rv k∨rv[k].1 < 0∨log.length≤rv[k].1):(Fs log (Gc rv k) (rv.drop k)).map f=none:=by
 rw [Ng hk,if_pos h];rfl
theorem fN {log:List Ev} {rv:List (Int×Int)} {k:Nat} (hk:k < rv.length) {f:List Pn→List Pn} {e:Ev} (he:log[rv[k].1.toNat]? = some e) (h:rv[k].2 < 0∨e.2.2.1.length≤rv[k].2):(Fs log (Gc rv k) (rv.drop k)).map f=none:=by
 rw [Ng hk,he];split
 ·rfl
 ·simp only [if_pos h];rfl
theorem fO {log:List Ev} {rv:List (Int×Int)} {k:Nat} (hk:k < rv.length) {ps:List Pn} {e:Ev} (he:log[rv[k].1.toNat]? = some e) (hn:rv[k] ∉ Gc rv k) (h1:0≤rv[k].1) (h2:rv[k].1 < log.length) (h3:0≤rv[k].2) (h4:rv[k].2 < e.2.2.1.length) :
  (Fs log (Gc rv k) (rv.drop k)).map (ps++·)=(Fs log (Gc rv (k+1)) (rv.drop (k+1))).map ((ps++[(rv[k].1,rv[k].2,e.2.2.1.getD rv[k].2.toNat 0,Be (GO e) rv[k].2.toNat,())])++·):=by
 rw [Ng hk,he,if_neg (by rintro (h|h);exact hn h;omega)];simp only [if_neg (show ¬ (rv[k].2 < 0∨(e.2.2.1.length:Int)≤rv[k].2) by omega)]
 cases Fs log (Gc rv (k+1)) (rv.drop (k+1)) with
 | none=>rfl
 | some qs=>simp
theorem Nh {rv:List (Int×Int)} {k:Nat} {p:Int×Int}:H7 p∈(rv.map H7).take k↔p∈Gc rv k:=by
 unfold Gc;rw [List.mem_reverse,← List.map_take];constructor
 ·intro h;obtain ⟨q,hq,he⟩:=List.mem_map.1 h;simp only [H7,Prod.mk.injEq] at he;have:q=p:=Prod.ext he.1 he.2.1;exact this▸hq
 ·intro h;exact List.mem_map.2 ⟨p,h,rfl⟩
abbrev Fw (a0 a1 a2 a3 a4 a5 a6 a7 a8 a9 c0 c1 c2 c3 c4 c5:UInt8) (u p:Value):List Value:=[.int .u8 a0.toNat,.int .u8 a1.toNat,.int .u8 a2.toNat,.int .u8 a3.toNat,.int .u8 a4.toNat,.int .u8 a5.toNat,.int .u8 a6.toNat,.int .u8 a7.toNat,.int .u8 a8.toNat,.int .u8 a9.toNat,.int .u8 c0.toNat,.int .u8 c1.toNat,.int .u8 c2.toNat,.int .u8 c3.toNat,.int .u8 c4.toNat,.int .u8 c5.toNat,u,p]
theorem aD {h:Hd} (k:Fo h):(F6 h).length=66:=Rep.len (S:=⟨default,fun _ _=>0,#[],fun _=>none⟩) (CS k)
theorem SP {log:List Ev} {k:Nat} (hk:k < log.length):(log.take (k+1)).map AE=(log.take k).map AE++[AE log[k]]:=by
 rw [List.take_succ_eq_append_getElem hk,List.map_append];rfl
set_option maxRecDepth 20000 in
theorem ZU {S M} (w:World) (hst:St S M w) (hG:Bo S) (m:Dg) (hm:m.l.length=16) (vl:Value) (log:List Ev) (hl:RSl S vl log) (hlen:log.length≤1000) (hok:∀ e∈log,Nv e) (vr:Value) (rv:List (Int×Int)) (hr:RSl S vr rv) (hrl:rv.length≤1048576) :
  Ad Tryz.prog 16 [Cu m,vl,vr] w fun v w'=>SB S M m log rv v w':=by
 unfold Ad;have hl1:=hl.oneCell;have hr1:=hr.oneCell;obtain ⟨a0,a1,a2,a3,a4,a5,a6,a7,a8,a9,c0,c1,c2,c3,c4,c5,rfl⟩:=LM hm;refine FZ Tryz.func16 rfl ?_;simp only [Tryz.ntmps16,List.size_toArray,List.length_cons,List.length_nil,Nat.reduceAdd,Nat.reduceSub,Array.replicate_succ,Array.replicate_zero,List.push_toArray,List.append_toArray,List.nil_append,List.cons_append];repeat' ((apply Z1 ());first|(apply gK ();go_step)|(apply sC ();clear hst;intro bx w hst)|(apply sZ ();clear hst;intro bk w hst)|fail)
 rename_i n3 _ n4 _ _ n6 _ K0 hK0
 change St S (.box bk _ _::.box n6 _ _::.box bx vr.cells.toList _::.box n4 vl.cells.toList _::.box n3 _ _::M) w at hst
 rw [CD hl1,CD hr1] at hst;have hst0:=hst.perm ((List.Perm.cons _ (List.Perm.swap _ _ _)).trans (List.Perm.swap _ _ _));clear hst;obtain ⟨S1,hS1,hst,hpr⟩:=AC (α:=List (Int×Int)) (x:=rv) hst0 (by exact ⟨vr,rfl,hr⟩) rfl;clear hst0;have hst0:=hst.perm ((List.Perm.cons _ (List.Perm.swap _ _ _)).trans (List.Perm.swap _ _ _));clear hst;obtain ⟨S2,hS2,hst,hpl⟩:=AC (α:=List Ev) (x:=log) hst0 (by exact ⟨vl,rfl,hl.mono hS1⟩) rfl;clear hst0;generalize Value.pointer (some ⟨bx,0,none⟩)=pR at *;generalize Value.pointer (some ⟨n4,0,none⟩)=pL at *;replace hpr:=hpr.mono hS2;replace hG:=hG.mono (hS1.trans hS2);rename Nat=>n7
 repeat' (first|(with_reducible refine kU ?_;with_unfolding_all refine Ag hst (Cz (cs:=[.int .u8 a0.toNat,.int .u8 a1.toNat,.int .u8 a2.toNat,.int .u8 a3.toNat,.int .u8 a4.toNat,.int .u8 a5.toNat,.int .u8 a6.toNat,.int .u8 a7.toNat,.int .u8 a8.toNat,.int .u8 a9.toNat,.int .u8 c0.toNat,.int .u8 c1.toNat,.int .u8 c2.toNat,.int .u8 c3.toNat,.int .u8 c4.toNat,.int .u8 c5.toNat,.slice none 0 0,.slice none 0 0]) Aa Aa kr) ?_<;>(try refine nY ?_))|(apply gK ();go_step)|(with_reducible refine kL ?_;refine Ag hst (by exact Bl Ab BoxIn.h Aa E5) ?_<;>(try refine nY ?_))|(with_reducible refine kL ?_;refine An hst (Ae Ab Ak Aa) ?_;rintro v ⟨hvl,hv1⟩<;>(try refine nY ?_))|apply sY ()|(apply sT ();clear hst;intro w hst)|(apply sZ ();clear hst;intro bk w hst)|fail)
 rename Nat=>n8
 have hst:=hst.nil 59 66
 go_loopw [20] (fun v wr=>∃ (k:Nat) (u:Value),k≤log.length∧v=.int .i64 k∧u.oneCell'=true∧St S2 (.sl u 59 66 k (cF F6 ((log.take k).map AE))::.box n8 (Fw a0 a1 a2 a3 a4 a5 a6 a7 a8 a9 c0 c1 c2 c3 c4 c5 u (.slice none 0 0)) 27::.box n7 [.int .i64 0] 31::.box n6 DO 27::.box n3 (u8s [a0,a1,a2,a3,a4,a5,a6,a7,a8,a9,c0,c1,c2,c3,c4,c5]) 23::M) wr) (fun v _=>log.length - (intOf v).toNat)
 case atStart=>exact ⟨0,_,Nat.zero_le _,rfl,rfl,hst⟩
 case round =>
  clear hst;obtain ⟨k,u,hk,rfl,hu1,hst⟩:=hrel;by_cases hlt:k < log.length
  ·obtain ⟨e1,e2,e3⟩:=hok _ (List.getElem_mem hlt);have hsn:=Lib.hid (SP hlt);repeat' ((apply Z5 ());first|(with_reducible refine kS ?_;refine Jm hst rfl BoxIn.h Ab Ak Aa rfl rfl ?_;clear hst;intro w hst<;>(try refine nY ?_)<;>(try replace hst:=nH hst))|(apply gK ();go_step)|(with_reducible refine kL ?_;refine An hst (Av Ab Ak Aa) ?_;rintro v ⟨cl,rfl,hcl⟩<;>(try refine nY ?_))|(apply sJ ();intro v hp)|(apply sZ ();clear hst;intro bk w hst)|fail)
   have hst0:=hst;clear hst;obtain ⟨S3,hS3,hst,hpv⟩:=AC (α:=Ev) hst0 hcl (Rep.len hcl);clear hst0;generalize Value.pointer (some ⟨bk,0,none⟩)=pV at *;replace hG:=hG.mono hS3;have okH:Fo (AE log[k]):=LH hcl ⟨e1,e2,e3⟩;have cH:=fun {S:Ac} {M:List Chunk} (w:World) (hst:St S M w) (hG:Bo S) (cs:List Value) (hR:Rep.R S cs log[k])=>Vh w hst hG cs log[k] hR e1 e2 e3
   generalize AE log[k]=E at *;have hl66:=aD okH;generalize hcs0:cF F6 ((log.take k).map AE)=cs0 at *;refine AF hst kr ?_;clear hst;intro ops;(try refine nY ?_);refine td 0 rfl ?_;refine td 1 rfl ?_;refine tx 2 rfl (Av Ab hpv Aa) ?_;rintro v2 ⟨cl2,rfl,hcl2⟩;(refine Ba 3 rfl kr rfl (fun S' M' w hS hM hst=>cH w hst (hG.mono hS) cl2 (Rep.mono hS hcl2)) Aa rfl ?_)<;>(try refine nY ?_)
   refine AR 4 rfl kr ?_;intro w hst K hK;refine AA (vs:=[Vj E]) (cs:=F6 E) hst Aa Aa rfl rfl (by simp [Value.cells,hl66]) (by simp [Value.cells]) (by omega) (by omega) ?_;clear hst;intro x4 w hst;(try refine nY ?_);(try replace hst:=nH hst);refine Bn hK hst (Ac.Le.refl _) (Suf.cons (Suf.refl _)) ?_;clear hst hK K;(try clear w);(try refine nY ?_);refine AR 5 rfl kr ?_;intro w hst K hK;refine AG (j:=0) hst Ab Ab SlIn.h rfl Aa Aa Aa (Rep.one (S:=S) (CS okH)) (by omega) (by omega) (by decide) ?_;clear hst;intro x5 w hst;(try refine nY ?_);(try replace hst:=nH hst);replace hst:=hst.drop;have hone5:=AW hst;refine Bb hK hst ?_;clear hst hK K;(try clear w);(try refine nY ?_);refine td 6 rfl ?_;refine AR 7 rfl kr ?_;intro w hst K hK;(refine EV hst rfl BoxIn.h Ab Ak Aa (by simp<;>omega) ?_);clear hst;intro w hst;(try refine nY ?_);(try replace hst:=nH hst);refine Bb hK hst ?_;clear hst hK K;(try clear w);(try refine nY ?_);refine AK kr ?_;clear ops;intro w hst;repeat' (first|(apply gK ();go_step)|fail)
   go_roundw
   case rel=>exact ⟨k+1,x5,by omega,by go_num,hone5,by rw [hsn.out,I7,hcs0];exact St.weaken hS3 hst⟩
   case measure=>simp [intOf];omega
  ·obtain rfl:k=log.length:=by omega
   rw [List.take_length] at hst;repeat' (first|(apply gK ();go_step)|(apply kc ();refine sc (MF _ hst (.func (.func 40) #[] #[pR]) rfl) ?_;clear hst;rintro v w ⟨b4,rfl,hst⟩)|fail)
   have hks:∀ k∈rv.map H7,Ts k:=fun k hk=>by
    obtain ⟨p,hp,rfl⟩:=List.mem_map.1 hk;obtain ⟨h1,h2⟩:=Nb hr p hp;exact ⟨h1,h2⟩
   have hlenk:(rv.map H7).length=rv.length:=List.length_map _;have hit:=Lp (b:=b4) (S:=S2) (gf:=40) (lb:=[pR]) inferInstance hks (A:=fun k=>[]) (by rw [hlenk];exact ZW rv hrl _ hpr);have hst1:=hst.perm (List.Perm.cons _ (List.perm_middle (l₁:=[]).symm));have hst:=hst.nil 63 4;have hst:=hst.perm (List.Perm.swap _ _ _)
   refine NO (A:=fun k=>.box b4 [.func (.func 40) #[] [pR].toArray] 154::[])
    (fun k T N=>∃ up cp ps,N=.sl up 63 4 k cp::.sl u 59 66 log.length (cF F6 (log.map AE))::.box n8 (Fw a0 a1 a2 a3 a4 a5 a6 a7 a8 a9 c0 c1 c2 c3 c4 c5 u up) 27::.box n7 [.int .i64 0] 31::.box n6 DO 27::.box n3 (u8s [a0,a1,a2,a3,a4,a5,a6,a7,a8,a9,c0,c1,c2,c3,c4,c5]) 23::M∧up.oneCell'=true∧RL (α:=Pn) T cp ps∧ps.length=k∧Hid (Fs log [] rv=(Fs log (Gc rv k) (rv.drop k)).map (ps++·)))
    (fun T N=>∃ d1 d2 d3 d4,N=d1::d2::d3::.box n7 [.int .i64 1] 31::.box n6 DO 27::d4::M∧Fs log [] rv=none)
    hst ⟨_,[],[],rfl,rfl,RL.nil,rfl,Lib.hid (by simp [Gc])⟩ rfl Aa hit Aa ?_ (by simp) (by simp) (by simp) (by decide) (by decide) (by decide) ?_ ?_ ?_
   ·rintro k vs ⟨x,hx,rfl⟩;exact ⟨JP x,_,rfl,rfl,rfl⟩
   ·clear hst;rintro r k b cs v S3 M3 C w hk ⟨x,hx,hvs⟩ hS3 ⟨up,cp,ps,rfl,hup,hRp,hpl3,hmk⟩ hst;have hkl:k < rv.length:=by rw [hlenk] at hk;exact hk
    obtain rfl:x=H7 rv[k]:=by rw [Ni hkl] at hx;exact (Option.some.inj hx).symm
    obtain ⟨rfl,rfl⟩:cs=JP (H7 rv[k])∧v=.bool (!decide (H7 rv[k]∈(rv.map H7).take k)):=by
     apply gx ()
    obtain ⟨hp1,hp2⟩:=Nb hr rv[k] (List.getElem_mem hkl);have hpl:=hpl.mono hS3;have hG:=hG.mono hS3;simp only [List.cons_append,List.nil_append,JP,H7] at hst;simp only [List.set_cons_succ,List.set_cons_zero];generalize hHC:cF F6 (log.map AE)=HC at *
    cases hfr:(!decide (H7 rv[k]∈(rv.map H7).take k)) with
    | false =>
     repeat' (first|go_skip|with_reducible refine DX ?_|with_reducible refine Gf ?_|with_reducible refine Ls ?_|with_reducible refine JS ?_|with_reducible refine wpIn_seq ?_|with_reducible refine wpIn_block ?_|with_reducible refine wpIn_ret ?_|with_reducible refine Fy ?_|with_reducible (refine FO Ab ?_)|(with_reducible refine kU ?_;with_unfolding_all refine Ag hst (Cz (cs:=DO) Aa Aa kr) ?_<;>(try refine nY ?_))|(apply gK ();go_step)|(apply sT ();clear hst;intro w hst)|fail)
     refine .inr ⟨rfl,S3,_,Ac.Le.refl _,⟨_,_,_,_,rfl,?_⟩,hst.drop⟩;rw [hmk.out,UX hkl (.inl (Nh.1 (by simpa using hfr)))]
    | true =>
     have hnew:rv[k] ∉ Gc rv k:=fun h=>by
      have:=Nh.2 h;simp [this] at hfr
     repeat' ((fail_if_success (with_reducible show Code.wpIn _ _ _ (Code.region 13 _ _) _ _ _));first|go_skip|apply sG ()|with_reducible refine DX ?_|with_reducible refine Gf ?_|with_reducible refine Ls ?_|with_reducible refine JS ?_|with_reducible refine wpIn_seq ?_|with_reducible refine wpIn_block ?_|with_reducible refine wpIn_ret ?_|with_reducible refine wpIn_skip ?_|with_reducible refine Fy ?_|with_reducible (refine FO Ab ?_)|(with_reducible refine LP Ab ?_ ?_<;>intro hg<;>((try simp only [decide_eq_true_eq,decide_eq_false_iff_not,Bool.not_false,Bool.not_true,beq_iff_eq,beq_eq_false_iff_ne,ne_eq,Bool.not_eq_true',Bool.not_eq_false',bne_iff_ne,bne_eq_false_iff_eq] at hg)))|(with_reducible refine kU ?_;with_unfolding_all refine Ag hst (Cz (cs:=DO) Aa Aa kr) ?_<;>(try refine nY ?_))|(with_reducible refine Sl.k_guard ?_;refine Sl.guard_cases rfl ?_ ?_<;>intro hg<;>(simp only [hg,Bool.not_true,Bool.not_false])<;>(try replace hg:=gN hg)<;>(try refine nY ?_))|(apply gK ();go_step)|(with_reducible refine kL ?_;refine An hst (Ae Ab Ak Aa) ?_;rintro v ⟨hvl,hv1⟩<;>(try refine nY ?_))|apply sY ()|(apply sT ();clear hst;intro w hst)|fail)
     all_goals first
      | (refine .inr ⟨rfl,S3,_,Ac.Le.refl _,⟨_,_,_,_,rfl,?_⟩,hst.drop⟩;rw [hmk.out,UX hkl (.inr (by omega))])
      | skip
     have hjl:rv[k].1.toNat < log.length:=by omega
     have hee:=List.getElem?_eq_getElem hjl;obtain ⟨e1,e2,e3⟩:=hok _ (List.getElem_mem hjl);have hlv:(GO log[rv[k].1.toNat]).length=log[rv[k].1.toNat].2.2.1.length:=IQ _ _;by_cases hix:0≤rv[k].2∧rv[k].2 < log[rv[k].1.toNat].2.2.1.length
     ·skip
      refine JY (.inr ⟨_,rfl⟩) Rd rfl hst kr ?_;clear hst;intro ops;(try refine nY ?_);refine tx 0 rfl (Ae Ab hpl Aa) ?_;rintro v0 ⟨hv0,hv01⟩;refine td 1 rfl ?_;refine td 2 rfl ?_;refine tx 3 rfl (Ao Ab hv0 rfl Aa Aa Af Af) ?_;rintro v3 hp3;refine tx 4 rfl (Av Ab hp3 Aa) ?_;rintro v4 ⟨cl4,rfl,hcl4⟩;refine td 6 rfl ?_;refine td 7 rfl ?_;refine AR 5 rfl kr ?_;intro w hst K hK;refine B9 (Ph w hst hG cl4 _ hcl4 e2) Aa rfl ?_;clear hst;rintro v5 w ⟨T5,hT5,hv5,hv51,hst⟩;(try refine nY ?_);(try replace hst:=nH hst);refine Bn hK hst hT5 (Suf.refl _) ?_;clear hst hK K;(try clear w);(try refine nY ?_);refine AR 8 rfl kr ?_;intro w hst K hK;refine B9 (ZG w hst (hG.mono hT5) v5 _ hv5 rv[k].2 hix.1 (by rw [hlv];exact hix.2) (by rw [hlv];exact e2)) Aa rfl ?_;clear hst;rintro v8 w ⟨uq,rfl,T8,hT8,hv8,hv81,hst⟩;(try refine nY ?_);(try replace hst:=nH hst);refine Bn hK hst hT8 (Suf.refl _) ?_;clear hst hK K;(try clear w);(try refine nY ?_);refine td 9 rfl ?_;refine td 10 rfl ?_;refine td 11 rfl ?_;refine td 12 rfl ?_;refine td 13 rfl ?_;refine AK kr ?_;clear ops;intro w hst;have hpl:=hpl.mono (hT5.trans hT8);have hst:=hst.perm (List.perm_middle (l₁:=[_,_]));simp only [List.cons_append,List.nil_append] at hst
      repeat' ((fail_if_success (with_reducible show Code.wpIn _ _ _ (Code.region 16 _ _) _ _ _));first|with_reducible refine DX ?_|with_reducible refine Gf ?_|with_reducible refine wpIn_seq ?_|with_reducible refine wpIn_skip ?_|with_reducible refine Fy ?_|with_reducible (refine LQ Ab ?_)|(apply gK ();go_step)|fail)
      obtain ⟨qa,qn,qc,rfl⟩:=Ut hv8;have htl:rv[k].2.toNat < log[rv[k].1.toNat].2.2.1.length:=by omega
      refine JY (.inr ⟨_,rfl⟩) Rd rfl hst kr ?_;clear hst;intro ops;(try refine nY ?_);refine td 0 rfl ?_;refine td 1 rfl ?_;refine td 2 rfl ?_;refine td 3 rfl ?_;refine td 4 rfl ?_;refine td 5 rfl ?_;refine tx 6 rfl (Ae Ab hpl Aa) ?_;rintro v6 ⟨hv6,hv61⟩;refine td 7 rfl ?_;refine td 8 rfl ?_;refine tx 9 rfl (Ao Ab hv6 rfl Aa Aa Af Af) ?_;rintro v9 hp9;refine tx 10 rfl (Ah Ab hp9 Aa Aa rfl) ?_;rintro v10 hp10;refine tx 11 rfl (Ae Ab hp10 Aa) ?_;rintro v11 ⟨hv11,hv111⟩;refine td 12 rfl ?_;refine td 13 rfl ?_;refine tx 14 rfl (Ao Ab hv11 rfl Aa Aa Af Af) ?_;rintro v14 hp14;refine tx 15 rfl (Am Ab hp14 Aa) ?_;rintro v15 ⟨rfl,hI15⟩;refine td 16 rfl ?_;refine tq 17 rfl (Cz (cs:=[.int .i64 rv[k].1,.int .i64 rv[k].2,.int .i64 log[rv[k].1.toNat].2.2.1[rv[k].2.toNat],.slice qa qn qc]) Aa Aa kr) ?_;refine AR 18 rfl kr ?_;intro w hst K hK;refine AA (vs:=[.agg #[.int .i64 rv[k].1,.int .i64 rv[k].2,.int .i64 log[rv[k].1.toNat].2.2.1[rv[k].2.toNat],.slice qa qn qc]]) (cs:=[.int .i64 rv[k].1,.int .i64 rv[k].2,.int .i64 log[rv[k].1.toNat].2.2.1[rv[k].2.toNat],.slice qa qn qc]) hst Aa Aa rfl rfl (by simp [Value.cells]) (by simp [Value.cells]) (by omega) (by omega) ?_;clear hst;intro x18 w hst;(try refine nY ?_);(try replace hst:=nH hst);refine Bn hK hst (Ac.Le.refl _) (Suf.cons (Suf.refl _)) ?_;clear hst hK K;(try clear w);(try refine nY ?_)
      refine AR 19 rfl kr ?_;intro w hst K hK;refine AG (j:=0) hst Ab Ab SlIn.h rfl Aa Aa Aa ((by intro q hq;simp only [List.mem_cons,List.not_mem_nil,or_false] at hq;rcases hq with rfl|rfl|rfl|rfl<;>rfl)) (by omega) (by omega) (by decide) ?_;clear hst;intro x19 w hst;(try refine nY ?_);(try replace hst:=nH hst);replace hst:=hst.drop;have hone19:=AW hst;refine Bb hK hst ?_;clear hst hK K;(try clear w);(try refine nY ?_);refine td 20 rfl ?_;refine AR 21 rfl kr ?_;intro w hst K hK;(refine EV hst rfl BoxIn.h Ab Ak Aa (by simp<;>omega) ?_);clear hst;intro w hst;(try refine nY ?_);(try replace hst:=nH hst);refine Bb hK hst ?_;clear hst hK K;(try clear w);(try refine nY ?_);refine AK kr ?_;clear ops;intro w hst;repeat' (first|with_reducible refine Wg ?_|fail)
      have hRpt:Rep.R T8 [.int .i64 rv[k].1,.int .i64 rv[k].2,.int .i64 log[rv[k].1.toNat].2.2.1[rv[k].2.toNat],.slice qa qn qc] ((rv[k].1,rv[k].2,log[rv[k].1.toNat].2.2.1.getD rv[k].2.toNat 0,Be (GO log[rv[k].1.toNat]) rv[k].2.toNat,()):Pn):=by
       refine Ay (cs:=[_]) ⟨rfl,hp1⟩ (Ay (cs:=[_]) ⟨rfl,hp2⟩ (Ay (cs:=[_]) ⟨?_,?_⟩ (Ay (cs:=[_]) ⟨_,rfl,hv8⟩ Cf)))
       ·rw [List.getD_eq_getElem?_getD,List.getElem?_eq_getElem htl];rfl
       ·rw [List.getD_eq_getElem?_getD,List.getElem?_eq_getElem htl];exact hI15
      refine .inl ⟨rfl,⟨_,Ni hkl,fun h=>hnew (Nh.1 h)⟩,T8,_,hT5.trans hT8,⟨x19,_,ps++[_],rfl,hone19,(hRp.mono (hT5.trans hT8)).append (RL.one_mk hRpt),by rw [List.length_append,hpl3];rfl,Lib.hid (hmk.out.trans (fO hkl hee hnew (by omega) (by omega) hix.1 hix.2))⟩,?_⟩;exact (hst.perm (List.perm_middle (l₁:=[_,_])).symm).drop
     ·skip
      refine JY (.inr ⟨_,rfl⟩) Rd rfl hst kr ?_;clear hst;intro ops;(try refine nY ?_);refine tx 0 rfl (Ae Ab hpl Aa) ?_;rintro v0 ⟨hv0,hv01⟩;refine td 1 rfl ?_;refine td 2 rfl ?_;refine tx 3 rfl (Ao Ab hv0 rfl Aa Aa Af Af) ?_;rintro v3 hp3;refine tx 4 rfl (Av Ab hp3 Aa) ?_;rintro v4 ⟨cl4,rfl,hcl4⟩;refine td 6 rfl ?_;refine td 7 rfl ?_;refine AR 5 rfl kr ?_;intro w hst K hK;refine B9 (Ph w hst hG cl4 _ hcl4 e2) Aa rfl ?_;clear hst;rintro v5 w ⟨T5,hT5,hv5,hv51,hst⟩;(try refine nY ?_);(try replace hst:=nH hst);refine Bn hK hst hT5 (Suf.refl _) ?_;clear hst hK K;(try clear w);(try refine nY ?_);refine AR 8 rfl kr ?_;intro w hst K hK;refine B9 (Xj w hst v5 _ hv5 rv[k].2 (by omega) (by rw [hlv];exact e2)) Aa rfl ?_;clear hst;rintro v8 w ⟨rfl,hst⟩;(try refine nY ?_);(try replace hst:=nH hst);refine Bn hK hst (Ac.Le.refl _) (Suf.refl _) ?_;clear hst hK K;(try clear w);(try refine nY ?_);refine td 9 rfl ?_;refine td 10 rfl ?_;refine td 11 rfl ?_;refine td 12 rfl ?_;refine td 13 rfl ?_;refine AK kr ?_;clear ops;intro w hst;repeat' (first|with_reducible refine DX ?_|with_reducible refine Gf ?_|with_reducible refine Ls ?_|with_reducible refine JS ?_|with_reducible refine wpIn_seq ?_|with_reducible refine wpIn_ret ?_|with_reducible refine Fy ?_|with_reducible (refine FO Ab ?_)|(with_reducible refine kU ?_;with_unfolding_all refine Ag hst (Cz (cs:=DO) Aa Aa kr) ?_<;>(try refine nY ?_))|(apply gK ();go_step)|(apply sT ();clear hst;intro w hst)|fail)
      refine .inr ⟨rfl,T5,_,hT5,⟨_,_,_,_,rfl,?_⟩,hst.drop⟩;rw [hmk.out,fN hkl hee (by omega)]
   ·clear hst;rintro d S3 M3 w hS3 ⟨up,cp,ps,rfl,hup,hRp,hpl3,hmk⟩ hst;simp only [List.cons_append,List.nil_append] at hst;obtain ⟨p1,p2,p3,rfl⟩:=sl_formk (k:=2) hst rfl;obtain ⟨q1,q2,q3,rfl⟩:=sl_formk (k:=3) hst rfl;have hmk:=hmk.out;rw [hlenk,List.drop_length,Fs] at hmk;simp only [Option.map_some,List.append_nil] at hmk
    have hok2:∀ h∈log.map AE,Fo h:=fun h hh=>by
     obtain ⟨e,he,rfl⟩:=List.mem_map.1 hh;obtain ⟨cs,hR⟩:=M4 hl e he;exact LH hR (hok e he)
    repeat' (first|(apply gK ();go_step)|(with_reducible refine kL ?_;refine Ag hst (by exact Bl Ab BoxIn.h Aa E5) ?_<;>(try refine nY ?_))|(apply sT ();clear hst;intro w hst)|fail)
    refine NS hst rfl (fun w' hst'=>AT hst' rfl _ BoxIn.h Aa rfl rfl) (fun w' hst'=>AT hst' rfl _ BoxIn.h Aa rfl rfl) fun w' hst'=>?_
    refine ⟨_,rfl,?_⟩;unfold SB;rw [hmk];have hst2:=hst'.drop;have hst3:=hst2.perm (List.Perm.swap _ _ _);obtain ⟨T2,hT2,hst4,hv2⟩:=St.freeze (α:=Hd) hst3 (UC hok2) (by simp);refine ⟨T2,((hS1.trans hS2).trans hS3).trans hT2,_,_,cp,rfl,hv2,hRp.mono hT2,?_⟩;have hst5:=(hst4.perm (List.Perm.swap _ _ _)).drop;have hst6:=(hst5.perm (List.Perm.swap _ _ _)).drop;have hst7:=(hst6.perm (List.Perm.swap _ _ _)).drop;have hst8:=(hst7.perm (List.Perm.swap _ _ _)).drop;rw [hpl3];exact hst8
   ·clear hst;rintro d k S3 M3 w hk hS3 ⟨d1,d2,d3,d4,rfl,hno⟩ hst;simp only [List.cons_append,List.nil_append] at hst;repeat' (first|(apply gK ();go_step)|fail)
    refine NS hst rfl (fun w' hst'=>AT hst' rfl _ BoxIn.h Aa rfl rfl) (fun w' hst'=>AT hst' rfl _ BoxIn.h Aa rfl rfl) fun w' hst'=>⟨_,rfl,S,Ac.Le.refl _,?_⟩
    rw [hno];exact ⟨rfl,St.weaken ((hS1.trans hS2).trans hS3) hst'.drop.drop.drop.drop.drop.drop.drop⟩
theorem dE {S M} (w:World) (hst:St S M w) (hG:Bo S) (m:Dg) (hm:m.l.length=16) (vl:Value) (log:List Ev) (hl:RSl S vl log) (hlen:log.length≤1000) (hok:∀ e∈log,Nv e) (vr:Value) (rv:List (Int×Int)) (hr:RSl S vr rv) (hrl:rv.length≤1048576) :
  Ad Tryz.prog 16 [Cu m,vl,vr] w fun v w'=>SA S M m log rv v w' :=
 (ZU w hst hG m hm vl log hl hlen hok vr rv hr hrl).mono fun _ _ h=>ZV hm h
theorem VK {hs:List Hd}:∀ (ps:List Pn) (bf:List (Int×Int)),CJ hs bf ps=0→∀ p∈ps,0≤p.1∧∃ h,hs[p.1.toNat]? = some h∧0≤p.2.1∧p.2.1 < h.2.2.1∧B7 h.2.2.2.1 h.2.2.1.toNat p.2.1.toNat (BK p.2.1 p.2.2.1) p.2.2.2.1=true
 | [],_,_,_,hp=>by cases hp
 | q::ps,bf,h,p,hp=>by
  simp only [CJ] at h;split at h
  ·cases h
  ·rename_i hc;split at h
   ·cases h
   ·rename_i hd he;split at h
    ·cases h
    ·rename_i hk;split at h
     ·rename_i hv;rcases List.mem_cons.1 hp with rfl|hp
      ·have hc':=fun x=>hc (.inr x)
       exact ⟨by omega,hd,he,by omega,by omega,hv⟩
      ·exact VK ps _ h p hp
     ·cases h
section
variable {α:Type}
def fz (n:Nat) (k:Nat→α):α:=Nat.rec (k 0) (fun m _=>k (m+1)) n
theorem SS (n:Nat) (k:Nat→α):fz n k=k n:=by cases n<;>rfl
def G0 (x:UInt32) (k:UInt32→α):α:=fz x.toNat fun n=>k (UInt32.ofNat n)
theorem Ic (x:UInt32) (k:UInt32→α):G0 x k=k x:=by rw [G0,SS,UInt32.ofNat_toNat]
def er (x:UInt8) (k:UInt8→α):α:=fz x.toNat fun n=>k (UInt8.ofNat n)
theorem eg (x:UInt8) (k:UInt8→α):er x k=k x:=by rw [er,SS,UInt8.ofNat_toNat]
def Px:List UInt32→(List UInt32→α)→α
 | [],k=>k []
 | x::r,k=>G0 x fun x=>Px r fun r=>k (x::r)
theorem Nq:∀ (l:List UInt32) (k:List UInt32→α),Px l k=k l
 | [],_=>rfl
 | x::r,k=>by rw [Px,Ic,Nq r]
def LJ:List UInt8→(List UInt8→α)→α
 | [],k=>k []
 | x::r,k=>er x fun x=>LJ r fun r=>k (x::r)
theorem I6:∀ (l:List UInt8) (k:List UInt8→α),LJ l k=k l
 | [],_=>rfl
 | x::r,k=>by rw [LJ,eg,I6 r]
def Vm (s:S8) (k:S8→α):α:=G0 s.a fun a=>G0 s.b fun b=>G0 s.c fun c=>G0 s.d fun d=>G0 s.e fun e=>G0 s.f fun f=>G0 s.g fun g=>G0 s.h fun h=>k ⟨a,b,c,d,e,f,g,h⟩
theorem Py (s:S8) (k:S8→α):Vm s k=k s:=by simp only [Vm,Ic]
def J5 (blk:List UInt8):Nat→(List UInt32→α)→α
 | 0,k=>Px (List.replicate 64 0) k
 | n+1,k=>J5 blk n fun ws=>G0 (L5 blk ws n) fun x=>Px (ws.set n x) k
theorem NM (blk:List UInt8):∀ (n:Nat) (k:List UInt32→α),J5 blk n k=k (EU blk n)
 | 0,k=>by rw [J5,Nq,EU]
 | n+1,k=>by rw [J5,NM blk n,Ic,Nq,EU]
def IX (w:List UInt32) (s:S8):Nat→(S8→α)→α
 | 0,k=>Vm s k
 | n+1,k=>IX w s n fun s=>G0 (He.getD n 0) fun kk=>G0 (w.getD n 0) fun x=>G0 (dL s kk x) fun t=>G0 (gc s) fun u=>Vm ⟨t+u,s.a,s.b,s.c,s.d+t,s.e,s.f,s.g⟩ k
theorem Mb (w:List UInt32) (s:S8):∀ (n:Nat) (k:S8→α),IX w s n k=k (H0 w s n)
 | 0,k=>by rw [IX,Py,H0]
 | n+1,k=>by rw [IX,Mb w s n,Ic,Ic,Ic,Ic,Py,H0];rfl
def KX (m:List UInt8):Nat→(S8→α)→α
 | 0,k=>k FH
 | n+1,k=>KX m n fun s=>LJ ((m.drop (64 * n)).take 64) fun b=>J5 b 64 fun w=>IX w s 64 fun t=>Vm (fb t s) k
theorem MK (m:List UInt8):∀ (n:Nat) (k:S8→α),KX m n k=k (Ig m n)
 | 0,k=>rfl
 | n+1,k=>by rw [KX,MK m n,I6,NM,Mb,Py];rfl
def SR (b:List UInt8) (k:List UInt8→α):α:=LJ (Fl b) fun m=>fz (m.length / 64) fun n=>KX m n fun s=>LJ (O3 s) k
theorem X1 (b:List UInt8) (k:List UInt8→α):SR b k=k (Ib b):=by
 rw [SR,I6,SS,MK,I6];rfl
end
end Go.Proofs.YtmmbidoldegemaaGreatDoor
