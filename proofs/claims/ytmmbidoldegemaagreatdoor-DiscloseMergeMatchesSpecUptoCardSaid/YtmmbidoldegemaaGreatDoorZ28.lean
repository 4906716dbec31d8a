/- Part 29 of the proof that the law of the last part holds; no conditions. -/
import Derived.Test.YtmmbidoldegemaaGreatDoorZ12
import Derived.Test.YtmmbidoldegemaaGreatDoorZ27
set_option linter.unusedSimpArgs false
set_option linter.unusedVariables false
set_option maxRecDepth 8000
set_option maxHeartbeats 8000000
namespace Go.Proofs.YtmmbidoldegemaaGreatDoor
open Go.RowKit Go.Sl
def BL (ns:List Nd):Nat→Int→Nat
 | 0,_=>0
 | f+1,k=>1+((Ax ns k).2.2.2.1.map (BL ns f)).sum
theorem QA {ns:List Nd} {rec:Int→Wk→Wk} {vs:Int→Nat} {k:Int} (h:∀ o w,w.2.2=false→(rec o w).2.2=false→(rec o w).1=w.1+(vs o:Int)) :
  ∀ (os cs:List Int) (w:Wk),w.2.2=false→(BV rec ns k os cs w).1.2.2=false→(BV rec ns k os cs w).2=false→cs.length=os.length→(BV rec ns k os cs w).1.1=w.1+((os.map vs).sum:Nat)
 | [],cs,w,hw,h1,h2,hl=>by
  have e:BV rec ns k [] cs w=(w,false):=by cases cs<;>rfl
  rw [e];simp
 | o::os,[],w,hw,h1,h2,hl=>by simp at hl
 | o::os,c::cs,w,hw,h1,h2,hl=>by
  rw [BV,if_neg (by rw [hw];decide)] at h1 h2 ⊢;by_cases hc:o < 0∨k≤o∨DQ (Ax ns o).1≠c
  ·rw [if_pos hc] at h1;cases h1
  ·rw [if_neg hc] at h1 h2 ⊢
   cases hbo:(rec o w).2.2 with
   | true =>
    have e:BV rec ns k os cs (rec o w)=(rec o w,false):=by
     apply gz ()
    rw [e,hbo] at h1;cases h1
   | false =>
    have ih:=QA h os cs (rec o w) hbo h1 h2 (by simpa using hl);rw [ih,h o w hw hbo,List.map_cons,List.sum_cons];omega
theorem OB {ns:List Nd} {rec:Int→Wk→Wk} {k:Int}:∀ (os cs:List Int) (w:Wk),(BV rec ns k os cs w).2=true→(BV rec ns k os cs w).1.2.2=true
 | [],cs,w,h=>by
  have e:BV rec ns k [] cs w=(w,false):=by cases cs<;>rfl
  rw [e] at h;cases h
 | o::os,[],w,h=>by rw [BV] at h<;>cases h
 | o::os,c::cs,w,h=>by
  rw [BV] at h ⊢;split at h
  ·cases h
  ·rename_i h1;rw [if_neg h1];split at h
   ·rename_i h2;rw [if_pos h2]
   ·rename_i h2;rw [if_neg h2];exact OB os cs _ h
theorem Tw {ns:List Nd}:∀ (f:Nat) (k:Int) (w:Wk),w.2.2=false→(DY ns f k w).2.2=false→(DY ns f k w).1=w.1+(BL ns f k:Int)
 | 0,k,w,hw,hr=>by cases hr
 | f+1,k,w,hw,hr=>by
  rw [DY] at hr ⊢;by_cases hc:DQ (Ax ns k).1=0∨(Fh (Ax ns k).1 (Ax ns k).2.2.2.1.length).length≠(Ax ns k).2.2.2.1.length∨((Ax ns k).1=12∧(Ax ns k).2.1≠w.2.1)
  ·rw [if_pos hc] at hr;cases hr
  ·rw [if_neg hc] at hr ⊢;have hlen:(Fh (Ax ns k).1 (Ax ns k).2.2.2.1.length).length=(Ax ns k).2.2.2.1.length:=Decidable.byContradiction fun e=>hc (.inr (.inl e))
   have L:=QA (ns:=ns) (rec:=DY ns f) (vs:=BL ns f) (k:=k) (fun o w h1 h2=>Tw f o w h1 h2) (Ax ns k).2.2.2.1 (Fh (Ax ns k).1 (Ax ns k).2.2.2.1.length) (w.1,if (Ax ns k).1=12 then w.2.1+1 else w.2.1,w.2.2) hw;simp only at hr L ⊢;generalize hW:BV (DY ns f) ns k (Ax ns k).2.2.2.1 (Fh (Ax ns k).1 (Ax ns k).2.2.2.1.length) (w.1,if (Ax ns k).1=12 then w.2.1+1 else w.2.1,w.2.2)=r at *;by_cases hg:r.2=true
   ·have B:=OB (ns:=ns) (rec:=DY ns f) (k:=k) (Ax ns k).2.2.2.1 (Fh (Ax ns k).1 (Ax ns k).2.2.2.1.length) (w.1,if (Ax ns k).1=12 then w.2.1+1 else w.2.1,w.2.2);rw [hW] at B;rw [if_pos hg,B hg] at hr;cases hr
   ·rw [if_neg hg] at hr ⊢;simp only [Bool.or_eq_false_iff] at hr;have:=L hr.1 (by simpa using hg) hlen;rw [BL];simp only;omega
theorem Ww (vs:Int→Nat) {os:List Int} {i:Nat} (h:i < os.length):((os.take i).map vs).sum+vs os[i]≤(os.map vs).sum:=by
 have h1:os.take i++os.drop i=os:=List.take_append_drop i os
 have h2:((os.take i).map vs).sum+((os.drop i).map vs).sum=(os.map vs).sum:=by
  rw [← List.sum_append,← List.map_append,h1]
 rw [List.drop_eq_getElem_cons h,List.map_cons,List.sum_cons] at h2;omega
theorem OD {p:Pg} (hw:DI p):BL p.2.1 (p.2.1.length+1) ((p.2.1.length:Int) - 1)=p.2.1.length:=by
 have h:=Tw (ns:=p.2.1) (p.2.1.length+1) ((p.2.1.length:Int) - 1) (0,0,false) rfl (by rw [hw.wk]);rw [hw.wk] at h;simp only at h;omega
theorem JX {ns:List Nd} {f:Nat} {k:Nat} (hk:k < ns.length) {i:Nat} (hi:i < (ns[k]).2.2.2.1.length):(((ns[k]).2.2.2.1.take i).map (BL ns f)).sum+BL ns f ((ns[k]).2.2.2.1[i])+1≤BL ns (f+1) k:=by
 rw [BL,BG hk];have:=Ww (BL ns f) hi;omega
theorem Iu (rec:Int→Int→List EY) (vs:Int→Nat):∀ (os:List Int) (pos:Int) (out:List EY),(∀ o∈os,∀ q,(rec o q).length≤4 * vs o)→(Ck rec os pos out).length≤out.length+4 * (os.map vs).sum
 | [],pos,out,h=>by rw [Ck];simp
 | o::os,pos,out,h=>by
  rw [Ck];have h1:=Iu rec vs os pos (out++rec o (pos+out.length)) (fun x hx=>h x (List.mem_cons_of_mem _ hx));have h2:=h o List.mem_cons_self (pos+out.length);rw [List.length_append] at h1;rw [List.map_cons,List.sum_cons];omega
theorem Ms (rec:Int→Int→List EY):∀ (os:List Int) (o pos:Int) (out:List EY),Ck rec (os++[o]) pos out=Ck rec os pos out++rec o (pos+(Ck rec os pos out).length)
 | [],o,pos,out=>rfl
 | x::os,o,pos,out=>by
  rw [List.cons_append,Ck,Ck,Ms rec os o pos]
theorem LF {p:Pg} (hw:DI p):∀ (f:Nat) (k:Nat) (pos:Int),k < p.2.1.length→(AQ p f k pos).length≤4 * BL p.2.1 f k
 | 0,k,pos,hk=>Nat.zero_le _
 | f+1,k,pos,hk=>by
  have ih:∀ i (hi:i < (p.2.1[k]).2.2.2.1.length) q,(AQ p f (p.2.1[k]).2.2.2.1[i] q).length≤4 * BL p.2.1 f (p.2.1[k]).2.2.2.1[i]:=fun i hi q=>by
   obtain ⟨o,a,b,d⟩:=G9 hw hk hi;rw [b];exact LF hw f o q (by omega)
  have io:∀ i (hi:i < (p.2.1[k]).2.2.2.1.length) q,(AQ p f (BB p.2.1[k] i) q).length≤4 * BL p.2.1 f (p.2.1[k]).2.2.2.1[i]:=fun i hi q=>by
   have e:BB p.2.1[k] i=(p.2.1[k]).2.2.2.1[i]:=by unfold BB;rw [List.getD_eq_getElem?_getD,List.getElem?_eq_getElem hi];rfl
   rw [e];exact ih i hi q
  have ar:=@Ow p hw k hk;have arr:=Tn hw hk;rw [AQ,BL,BG hk];simp only;generalize p.2.1[k]=n at *
  have hm:=Iu (AQ p f) (BL p.2.1 f) n.2.2.2.1 pos [] (fun o ho q=>by
   obtain ⟨i,hi,rfl⟩:=List.getElem_of_mem ho;exact ih i hi q)
  simp only [List.length_nil] at hm;split
  ·show 1≤_;omega
  ·split
   ·show 1≤_;omega
   ·split
    ·have ha:=ar (by assumption);have hl:n.2.2.2.1.length=2∨n.2.2.2.1.length=3:=by omega
     rcases hl with hl|hl
     ·rw [if_pos hl]
      match hos:n.2.2.2.1,hl with
      | [a,b],_ =>
       simp only [hos] at io;have h0:=io 0 (by simp) pos;have h1:=io 1 (by simp) (pos+(AQ p f (BB n 0) pos).length+1);simp only [List.getElem_cons_zero,List.getElem_cons_succ] at h0 h1;apply g7 ()
     ·rw [if_neg (by omega)]
      match hos:n.2.2.2.1,hl with
      | [a,b,c],_ =>
       simp only [hos] at io;have h0:=io 0 (by simp) pos;have h1:=io 1 (by simp) (pos+(AQ p f (BB n 0) pos).length+1);have h2:=io 2 (by simp) (pos+(AQ p f (BB n 0) pos).length+1+(AQ p f (BB n 1) (pos+(AQ p f (BB n 0) pos).length+1)).length+1);simp only [List.getElem_cons_zero,List.getElem_cons_succ] at h0 h1 h2;apply g7 ()
    ·split
     ·have hl:n.2.2.2.1.length=1:=by
       unfold Fh at arr;rw [if_neg (by omega),if_neg (by omega),if_neg (by omega),if_pos (by assumption)] at arr;exact arr.symm
      match hos:n.2.2.2.1,hl with
      | [a],_ =>
       simp only [hos] at io;have h0:=io 0 (by simp) (pos+2);simp only [List.getElem_cons_zero] at h0;apply g7 ()
     ·split
      ·show 1≤_;omega
      ·split
       ·show 1≤_;omega
       ·repeat' split
        all_goals
         (try simp only [List.length_append,i1,List.length_cons,List.length_nil]);omega
structure FP (p:Pg):Prop where
 li:p.1.length≤100000
 ln:p.2.1.length≤100000
 lo:∀ x∈p.2.1,x.2.2.2.1.length≤100000
theorem GM {S:Ac} {si sn:Sv} {p:Pg} (h:Du S si sn p):Rep.R S [.slice si.1 si.2.1 si.2.2,.slice sn.1 sn.2.1 sn.2.2,.int .i64 p.2.2.1,.int .i64 p.2.2.2.1] p :=
 Ay (cs:=[_]) ⟨_,rfl,h.i⟩ (Ay (cs:=[_]) ⟨_,rfl,h.n⟩ (Ay (cs:=[_]) ⟨rfl,h.r⟩ (Ay (cs:=[_]) ⟨rfl,h.q⟩ Cf)))
theorem EQ {S:Ac} {cl:List Value} {p:Pg} (hb:FP p) (h:Rep.R S cl p):∃ si sn:Sv,cl=[.slice si.1 si.2.1 si.2.2,.slice sn.1 sn.2.1 sn.2.2,.int .i64 p.2.2.1,.int .i64 p.2.2.2.1]∧Du S si sn p:=by
 obtain ⟨hl,h1,h2⟩:=h;obtain ⟨hl2,h3,h4⟩:=h2;obtain ⟨hl3,h5,h6⟩:=h4;obtain ⟨hl4,h7,h8⟩:=h6;obtain ⟨v1,e1,i1⟩:=h1;obtain ⟨v2,e2,i2⟩:=h3;obtain ⟨e3,i3⟩:=h5;obtain ⟨e4,i4⟩:=h7;obtain ⟨a,n,c,rfl⟩:=BO i1;obtain ⟨a',n',c',rfl⟩:=BO i2;refine ⟨(a,n,c),(a',n',c'),?_,i1,i2,i3,i4,hb.li,hb.ln,hb.lo⟩;apply ip ()
theorem bK {S M} (w:World) (hst:St S M w) {p:Pg} (hb:FP p) (cl:List Value) (hR:Rep.R S cl p) :
  Ad Tryz.prog 104 [.agg cl.toArray] w fun v w'=>∃ so co,v=Ar so∧RL S co (DM p)∧St S (.sl (Ar so) 9 1 (DM p).length co::M) w':=by
 obtain ⟨si,sn,rfl,hp⟩:=EQ hb hR;exact Tz w hst si sn p hp
theorem VE {S M} (w:World) (hst:St S M w) {p:Pg} (hb:FP p) (k:Nat) (hk:k≤p.2.1.length) (cl:List Value) (hR:Rep.R S cl p) :
  Ad Tryz.prog 63 [.agg cl.toArray,.int .i64 (k:Int)] w fun v w'=>v=.int .i64 (DP p k)∧St S M w':=by
 obtain ⟨si,sn,rfl,hp⟩:=EQ hb hR;exact VF w hst si sn p hp k hk
abbrev KC (S:Ac) (M:List Chunk) (xs:List EY) (v:Value) (w:World):Prop:=∃ S' so,S.Le S'∧v=Ar so∧RSl S' (Ar so) xs∧St S' M w
theorem oD {S:Ac} {M:List Chunk} {xs:List EY} {v:Value} {w:World} (h:DJ S M xs v w):KC S M xs v w:=by
 obtain ⟨S',so,co,hS,rfl,hC,hst⟩:=h;obtain ⟨S2,hS2,hst2,hx⟩:=St.freeze (α:=EY) hst hC rfl;exact ⟨S2,so,hS.trans hS2,rfl,hx,hst2⟩
theorem Ml {S M} (w:World) (hst:St S M w) (op a b:Int) (h1:Au op) (h2:Au a) (h3:Au b) :
  Ad Tryz.prog 65 [.int .i64 op,.int .i64 a,.int .i64 b] w (KC S M (i1 op a b)) :=
 (KQ w hst op a b h1 h2 h3).mono fun v w' h=>oD h
abbrev Ok (p:Pg) (f:Nat):Prop:=∀ {S:Ac} {M:List Chunk} (w:World) (cl:List Value) (k:Nat) (pos:Int),St S M w→Rep.R S cl p→k < p.2.1.length→k+1≤f→(0≤pos∧pos+4 * (BL p.2.1 f k:Int)≤100000) →
  Ad Tryz.prog 64 [.agg cl.toArray,.int .i64 (k:Int),.int .i64 pos] w (DJ S M (AQ p f k pos))
theorem Fj {α:Type} [Rep α] {S:Ac} {v:Value} {cs:List Value} {x:List α} {xs:List (List α)} (h:RSl S v x) (t:RL S cs xs):RL S (v::cs) (x::xs):=RL.append (RL.one_mk (show Rep.R S [v] x from ⟨v,rfl,h⟩)) t
theorem DD {S:Ac} {a:Int} {cs:List Value} {xs:List Int} (h:Au a) (t:RL S cs xs):RL S (.int .i64 a::cs) (a::xs):=RL.append (Cg h) t
theorem cZ {S:Ac}:RL S [.int .i64 0,.int .i64 0,.int .i64 0,.int .i64 4,.int .i64 5,.int .i64 6,.int .i64 7,.int .i64 8,.int .i64 9,.int .i64 10,.int .i64 11] JA :=
 DD (Aj (by decide)) (DD (Aj (by decide)) (DD (Aj (by decide)) (DD (Aj (by decide)) (DD (Aj (by decide)) (DD (Aj (by decide)) (DD (Aj (by decide)) (DD (Aj (by decide)) (DD (Aj (by decide)) (DD (Aj (by decide)) (DD (Aj (by decide)) RL.nil))))))))))
theorem Sw {n:Nd} {i:Nat} (hi:i < n.2.2.2.1.length):BB n i=n.2.2.2.1[i]:=by
 unfold BB;rw [List.getD_eq_getElem?_getD,List.getElem?_eq_getElem hi];rfl
theorem dF {p:Pg} {f k:Nat} (ih:Ok p f) (hw:DI p) (hk:k < p.2.1.length) (hf:k+1≤f+1) (i:Nat) (hi:i < (p.2.1[k]).2.2.2.1.length) {S:Ac} {M:List Chunk} (w:World) (hst:St S M w) (cl:List Value) (hR:Rep.R S cl p) (pos:Int)
  (hq:0≤pos∧pos+4 * (BL p.2.1 f (p.2.1[k]).2.2.2.1[i]:Int)≤100000) :
  Ad Tryz.prog 64 [.agg cl.toArray,.int .i64 ((p.2.1[k]).2.2.2.1[i]),.int .i64 pos] w (DJ S M (AQ p f (BB (p.2.1[k]) i) pos)):=by
 obtain ⟨o,a,b,d⟩:=G9 hw hk hi;rw [d];rw [b] at hq ⊢;exact ih w cl o pos hst hR (by omega) (by omega) hq
theorem I4 {p:Pg} {f k:Nat} (ih:Ok p f) (hw:DI p) (hk:k < p.2.1.length) (hf:k+1≤f+1) (i:Nat) (hi:i < (p.2.1[k]).2.2.2.1.length) {S:Ac} {M:List Chunk} (w:World) (hst:St S M w) (cl:List Value) (hR:Rep.R S cl p) (pos:Int)
  (hq:0≤pos∧pos+4 * (BL p.2.1 f (p.2.1[k]).2.2.2.1[i]:Int)≤100000) :
  Ad Tryz.prog 64 [.agg cl.toArray,.int .i64 ((p.2.1[k]).2.2.2.1[i]),.int .i64 pos] w (KC S M (AQ p f (BB (p.2.1[k]) i) pos)) :=
 (dF ih hw hk hf i hi w hst cl hR pos hq).mono fun v w' h=>oD h
theorem Hs {p:Pg} {f k:Nat} (hw:DI p) (hk:k < p.2.1.length) (i:Nat) (hi:i < (p.2.1[k]).2.2.2.1.length) (pos:Int):(AQ p f (BB (p.2.1[k]) i) pos).length≤4 * BL p.2.1 f (p.2.1[k]).2.2.2.1[i]:=by
 obtain ⟨o,a,b,d⟩:=G9 hw hk hi;rw [d,b];exact LF hw f o pos (by omega)
section
variable {S:Ac} {M:List Chunk} {w:World} {si sn:Sv} {p:Pg} {f k:Nat} {pos:Int}
theorem dH (hst:St S M w) (hp:Du S si sn p) (hw:DI p) (hk:k < p.2.1.length) (hf:k+1≤f+1) (hq:0≤pos∧pos+4 * (BL p.2.1 (f+1) k:Int)≤100000) (hv:(p.2.1[k]).1=1) :
  Ad Tryz.prog 64 [CR si sn p,.int .i64 (k:Int),.int .i64 pos] w (DJ S M (AQ p (f+1) k pos)):=by
 unfold Ad;obtain ⟨R,hR⟩:∃ R,AQ p (f+1) k pos=R:=⟨_,rfl⟩
 rw [hR];rw [AQ,BG hk] at hR;simp only at hR;have hn:=hp.n;have hln:=hp.ln;have hli:=hp.li;have hvl:=E0 p;have hb:FP p:=⟨hp.li,hp.ln,hp.lo⟩
 have hpr:=GM hp;rw [if_pos hv] at hR;have e1:(p.2.1[k].1 == 1)=true:=by first|rw [hv];rfl|exact beq_iff_eq.2 (by omega)
 have HR:=Lib.hid hR;clear hR hv hp;go_enter Tryz.func64,Tryz.ntmps64;repeat' ((apply Z1 ());first|(apply gK ();go_step)|(apply sB ();clear hst;intro bx w hst)|fail)
 refine wp_region_lit ?_;repeat' (first|(apply gK ();go_step)|apply sX ()|(apply sD ();intro cl hcl)|(apply sI ();intro v hp)|(apply sA ();clear hst;intro bk w hst)|fail)
 obtain ⟨so,rfl,ho,hI1,hI2,hI3⟩:=BT hcl;rw [show Rep.agg Nd=true from rfl];(try refine nX ?_);repeat' ((apply Z2 ());first|(apply gK ();go_step)|(apply sS ();clear hst;intro w hst)|fail)
 obtain ⟨S1,hS1,hst1,hpn⟩:=AC (α:=Nd) hst hcl rfl;clear hst;obtain ⟨S2,hS2,hst,hpp⟩:=AC (α:=Pg) hst1 (Rep.mono hS1 hpr) rfl;clear hst1 hcl hpr ho hn;replace hpn:=Pt.mono hS2 hpn;generalize Value.pointer (some ⟨bk,0,none⟩)=pN at *;generalize Value.pointer (some ⟨bx,0,none⟩)=pP at *;have hSS2:=hS1.trans hS2;clear hS1 hS2;have cO:=fun {S':Ac} {M:List Chunk} (w:World) (hst:St S' M w)=>KQ w hst 1 (p.2.1[k]).2.1 0 (Aj (by decide)) hI2 (Aj (by decide))
 apply hH ()
theorem ZZ (hst:St S M w) (hp:Du S si sn p) (hw:DI p) (hk:k < p.2.1.length) (hf:k+1≤f+1) (hq:0≤pos∧pos+4 * (BL p.2.1 (f+1) k:Int)≤100000) (hv:(p.2.1[k]).1=15) :
  Ad Tryz.prog 64 [CR si sn p,.int .i64 (k:Int),.int .i64 pos] w (DJ S M (AQ p (f+1) k pos)):=by
 unfold Ad;obtain ⟨R,hR⟩:∃ R,AQ p (f+1) k pos=R:=⟨_,rfl⟩
 rw [hR];rw [AQ,BG hk] at hR;simp only at hR;have hn:=hp.n;have hln:=hp.ln;have hli:=hp.li;have hvl:=E0 p;have hb:FP p:=⟨hp.li,hp.ln,hp.lo⟩
 have hpr:=GM hp;rw [if_neg (by omega),if_neg (by omega),if_neg (by omega),if_neg (by omega),if_pos hv] at hR;have e1:(p.2.1[k].1 == 1)=false:=beq_eq_false_iff_ne.2 (by omega);have e2:(p.2.1[k].1 == 2)=false:=beq_eq_false_iff_ne.2 (by omega);have e12:(p.2.1[k].1 == 12)=false:=beq_eq_false_iff_ne.2 (by omega);have e13:(p.2.1[k].1 == 13)=false:=beq_eq_false_iff_ne.2 (by omega);have e15:(p.2.1[k].1 == 15)=true:=by first|rw [hv];rfl|exact beq_iff_eq.2 (by omega)
 have HR:=Lib.hid hR;clear hR hv hp;go_enter Tryz.func64,Tryz.ntmps64;repeat' ((apply Z1 ());first|(apply gK ();go_step)|(apply sB ();clear hst;intro bx w hst)|fail)
 refine wp_region_lit ?_;repeat' (first|(apply gK ();go_step)|apply sX ()|(apply sD ();intro cl hcl)|(apply sI ();intro v hp)|(apply sA ();clear hst;intro bk w hst)|fail)
 obtain ⟨so,rfl,ho,hI1,hI2,hI3⟩:=BT hcl;rw [show Rep.agg Nd=true from rfl];(try refine nX ?_);repeat' ((apply Z2 ());first|(apply gK ();go_step)|(apply sS ();clear hst;intro w hst)|fail)
 obtain ⟨S1,hS1,hst1,hpn⟩:=AC (α:=Nd) hst hcl rfl;clear hst;obtain ⟨S2,hS2,hst,hpp⟩:=AC (α:=Pg) hst1 (Rep.mono hS1 hpr) rfl;clear hst1 hcl hpr ho hn;replace hpn:=Pt.mono hS2 hpn;generalize Value.pointer (some ⟨bk,0,none⟩)=pN at *;generalize Value.pointer (some ⟨bx,0,none⟩)=pP at *;have hSS2:=hS1.trans hS2;clear hS1 hS2;have cO:=fun {S':Ac} {M:List Chunk} (w:World) (hst:St S' M w)=>KQ w hst 15 (p.2.1[k]).2.1 0 (Aj (by decide)) hI2 (Aj (by decide))
 apply hH ()
theorem dG (hst:St S M w) (hp:Du S si sn p) (hw:DI p) (hk:k < p.2.1.length) (hf:k+1≤f+1) (hq:0≤pos∧pos+4 * (BL p.2.1 (f+1) k:Int)≤100000) (hv:(p.2.1[k]).1=2) :
  Ad Tryz.prog 64 [CR si sn p,.int .i64 (k:Int),.int .i64 pos] w (DJ S M (AQ p (f+1) k pos)):=by
 unfold Ad;obtain ⟨R,hR⟩:∃ R,AQ p (f+1) k pos=R:=⟨_,rfl⟩
 rw [hR];rw [AQ,BG hk] at hR;simp only at hR;have hn:=hp.n;have hln:=hp.ln;have hli:=hp.li;have hvl:=E0 p;have hb:FP p:=⟨hp.li,hp.ln,hp.lo⟩
 have hpr:=GM hp;rw [if_neg (by omega),if_pos hv] at hR;have e1:(p.2.1[k].1 == 1)=false:=beq_eq_false_iff_ne.2 (by omega);have e2:(p.2.1[k].1 == 2)=true:=by first|rw [hv];rfl|exact beq_iff_eq.2 (by omega)
 have HR:=Lib.hid hR;clear hR hv hp;go_enter Tryz.func64,Tryz.ntmps64;repeat' ((apply Z1 ());first|(apply gK ();go_step)|(apply sB ();clear hst;intro bx w hst)|fail)
 refine wp_region_lit ?_;repeat' (first|(apply gK ();go_step)|apply sX ()|(apply sD ();intro cl hcl)|(apply sI ();intro v hp)|(apply sA ();clear hst;intro bk w hst)|fail)
 obtain ⟨so,rfl,ho,hI1,hI2,hI3⟩:=BT hcl;rw [show Rep.agg Nd=true from rfl];(try refine nX ?_);repeat' ((apply Z2 ());first|(apply gK ();go_step)|(apply sS ();clear hst;intro w hst)|fail)
 obtain ⟨S1,hS1,hst1,hpn⟩:=AC (α:=Nd) hst hcl rfl;clear hst;obtain ⟨S2,hS2,hst,hpp⟩:=AC (α:=Pg) hst1 (Rep.mono hS1 hpr) rfl;clear hst1 hcl hpr ho hn;replace hpn:=Pt.mono hS2 hpn;generalize Value.pointer (some ⟨bk,0,none⟩)=pN at *;generalize Value.pointer (some ⟨bx,0,none⟩)=pP at *;have hSS2:=hS1.trans hS2;clear hS1 hS2;have cI:=fun {S':Ac} {M:List Chunk} {so:Sv} {co:List Value} (w:World) (hC:RL S' co (DM p)) (hst:St S' (.sl (Ar so) 9 1 (DM p).length co::M) w)=>SM w so (DM p) co hC (by omega) hst (p.2.1[k]).2.2.1
 have hi:=Rp (p.2.1[k]).2.2.1 (DM p) 0 (by omega);generalize Fg (p.2.1[k]).2.2.1 (DM p) 0=ix at *;have cO:=fun {S':Ac} {M:List Chunk} (w:World) (hst:St S' M w)=>KQ w hst 2 ix 0 (Aj (by decide)) (by show -9223372036854775808≤ix∧ix≤9223372036854775807;omega) (Aj (by decide))
 repeat' ((apply Z6 ());first|apply sK ()|(apply gK ();go_step)|(apply sN ();intro hI)|(apply sI ();intro v hp)|fail)
 refine AN hst kr ?_;clear hst;intro w hst;have hSS:=Bk hst;(try refine nX ?_);refine px 0 rfl (Av (y:=p) Ab hpp Aa) ?_;rintro v0 ⟨c0,rfl,hc0⟩;refine px 2 rfl (Ah Ab hpn Aa Aa rfl) ?_;rintro v2 hp2;refine px 3 rfl (AL Ab hp2 Aa) ?_;rintro v3 ⟨rfl,hs3⟩;refine po 1 rfl ?_;intro K hK;refine sc (bK w hst hb c0 (Rep.mono hSS hc0)) ?_;clear hst;rintro v1 w ⟨so1,co1,rfl,hC1,hst⟩;refine pn hK ?_;clear hK K;refine po 4 rfl ?_;intro K hK;refine sc (cI w hC1 hst) ?_;clear hst;rintro v4 w ⟨rfl,hst⟩;refine pn hK ?_;clear hK K;refine po 5 rfl ?_;intro K hK;refine sc (cO w hst) ?_;clear hst;rintro v5 w ⟨S3,so3,co3,hS3,rfl,hC3,hst⟩;replace hSS:=hSS.trans hS3;refine pn hK ?_;clear hK K;refine pd 6 rfl ?_;refine Az kr ?_;repeat' (first|(apply gK ();go_step)|fail)
 go_ret;exact ⟨_,rfl,S3,so3,co3,hSS2.trans hS3,rfl,by rw [← HR.out];exact hC3,by rw [← HR.out];exact (St.swap2 hst).drop⟩
theorem ZY (ih:Ok p f) (hst:St S M w) (hp:Du S si sn p) (hw:DI p) (hk:k < p.2.1.length) (hf:k+1≤f+1) (hq:0≤pos∧pos+4 * (BL p.2.1 (f+1) k:Int)≤100000) (hv:(p.2.1[k]).1=17) :
  Ad Tryz.prog 64 [CR si sn p,.int .i64 (k:Int),.int .i64 pos] w (DJ S M (AQ p (f+1) k pos)):=by
 unfold Ad;obtain ⟨R,hR⟩:∃ R,AQ p (f+1) k pos=R:=⟨_,rfl⟩
 rw [hR];rw [AQ,BG hk] at hR;simp only at hR;have hn:=hp.n;have hln:=hp.ln;have hli:=hp.li;have hvl:=E0 p;have hb:FP p:=⟨hp.li,hp.ln,hp.lo⟩
 have hpr:=GM hp;rw [if_neg (by omega),if_neg (by omega),if_neg (by omega),if_neg (by omega),if_neg (by omega),if_neg (by omega),if_neg (by omega),if_neg (by omega),if_pos hv] at hR;have e1:(p.2.1[k].1 == 1)=false:=beq_eq_false_iff_ne.2 (by omega);have e2:(p.2.1[k].1 == 2)=false:=beq_eq_false_iff_ne.2 (by omega);have e12:(p.2.1[k].1 == 12)=false:=beq_eq_false_iff_ne.2 (by omega);have e13:(p.2.1[k].1 == 13)=false:=beq_eq_false_iff_ne.2 (by omega);have e15:(p.2.1[k].1 == 15)=false:=beq_eq_false_iff_ne.2 (by omega);have e16:(p.2.1[k].1 == 16)=false:=beq_eq_false_iff_ne.2 (by omega);have e11:(p.2.1[k].1 == 11)=false:=beq_eq_false_iff_ne.2 (by omega);have e14:(p.2.1[k].1 == 14)=false:=beq_eq_false_iff_ne.2 (by omega);have e17:(p.2.1[k].1 == 17)=true:=by first|rw [hv];rfl|exact beq_iff_eq.2 (by omega)
 have hp0:=hp;have HR:=Lib.hid hR;clear hR hv hp;go_enter Tryz.func64,Tryz.ntmps64;repeat' ((apply Z1 ());first|(apply gK ();go_step)|(apply sB ();clear hst;intro bx w hst)|fail)
 refine wp_region_lit ?_;repeat' (first|(apply gK ();go_step)|apply sX ()|(apply sD ();intro cl hcl)|(apply sI ();intro v hp)|(apply sA ();clear hst;intro bk w hst)|fail)
 obtain ⟨so,rfl,ho,hI1,hI2,hI3⟩:=BT hcl;rw [show Rep.agg Nd=true from rfl];(try refine nX ?_);repeat' ((apply Z2 ());first|(apply gK ();go_step)|(apply sS ();clear hst;intro w hst)|fail)
 obtain ⟨S1,hS1,hst1,hpn⟩:=AC (α:=Nd) hst hcl rfl;clear hst;obtain ⟨S2,hS2,hst,hpp⟩:=AC (α:=Pg) hst1 (Rep.mono hS1 hpr) rfl;clear hst1 hcl hpr ho hn;replace hpn:=Pt.mono hS2 hpn;generalize Value.pointer (some ⟨bk,0,none⟩)=pN at *;generalize Value.pointer (some ⟨bx,0,none⟩)=pP at *;have hSS2:=hS1.trans hS2;clear hS1 hS2;have HV:=Lib.hid (fun i (hi:i < (p.2.1[k]).2.2.2.1.length)=>JX (f:=f) hk hi);have HB:=Lib.hid (fun i (hi:i < (p.2.1[k]).2.2.2.1.length) q=>Hs (f:=f) hw hk i hi q)
 have HM:=Lib.hid (fun i=>Iu (AQ p f) (BL p.2.1 f) ((p.2.1[k]).2.2.2.1.take i) pos [] (fun o ho q=>by
  obtain ⟨j,hj,rfl⟩:=List.getElem_of_mem (List.mem_of_mem_take ho);rw [← Sw hj];have:=Hs (f:=f) hw hk j hj q;rwa [← Sw hj] at this))
 have HC:=Lib.hid (fun i (hi:i < (p.2.1[k]).2.2.2.1.length) {S:Ac} {M:List Chunk} (w:World) (hst:St S M w) cl (hR:Rep.R S cl p) pos hq=>I4 ih hw hk hf i hi w hst cl hR pos hq);have hol:=hp0.lo _ (List.getElem_mem hk);have hvc:BL p.2.1 (f+1) k≤25000:=by omega
 repeat' ((apply P4 ());first|apply sK ()|(apply gK ();go_step)|(apply sN ();intro hI)|(apply sI ();intro v hp)|fail)
 replace hst:=hst.nil 186 3;repeat' (first|(apply gK ();go_step)|fail)
 go_loopw [9,10] (fun u9 u10 wr=>∃ (i n:Nat) (T:Ac) (a1:Option Addr) (k1:Nat) (co:List Value),i≤(p.2.1[k]).2.2.2.1.length∧S2.Le T∧u9=.slice a1 n k1∧u10=.int .i64 (i:Int)∧Hid (n=(Ck (AQ p f) ((p.2.1[k]).2.2.2.1.take i) pos []).length)∧RL T co (Ck (AQ p f) ((p.2.1[k]).2.2.2.1.take i) pos [])∧St T (.sl (.slice a1 n k1) 186 3 n co::M) wr) (fun _ v _=>(p.2.1[k]).2.2.2.1.length - (intOf v).toNat)
 case atStart=>exact ⟨0,0,S2,none,0,[],Nat.zero_le _,Ac.Le.refl S2,rfl,rfl,Lib.hid (by rw [List.take_zero,Ck];rfl),by rw [List.take_zero,Ck];exact RL.nil,hst⟩
 case round =>
  clear hst;obtain ⟨i,n,T,a1,k1,co1,hi2,hT,rfl,rfl,hnl,hC,hst⟩:=hrel;have hpn:=Pt.mono hT hpn;have hpp:=Pt.mono hT hpp;have hone:=Bh (k:=0) hst rfl;by_cases hlt:i < (p.2.1[k]).2.2.2.1.length
  ·have hv1:=HV.out i hlt;have hm1:=HM.out i;apply b6 ()
  ·obtain rfl:i=(p.2.1[k]).2.2.2.1.length:=by omega
   rw [List.take_length] at hC hnl;have hm1:=HM.out (p.2.1[k]).2.2.2.1.length;rw [List.take_length,← hnl.out] at hm1;simp only [List.length_nil,Nat.zero_add] at hm1;have hvk:((p.2.1[k]).2.2.2.1.map (BL p.2.1 f)).sum+1≤BL p.2.1 (f+1) k:=by rw [BL,BG hk];omega
   have hnb:n≤100000:=by omega
   clear hm1 hvk;generalize Ck (AQ p f) (p.2.1[k]).2.2.2.1 pos []=O at *;obtain rfl:=hnl.out;repeat' (first|apply sK ()|(apply gK ();go_step)|apply sX ()|(apply sN ();intro hI)|(apply sL ();intro v hvl hv1)|(apply sI ();intro v hp)|fail)
   go_ret;exact ⟨_,rfl,T,(a1,O.length,k1),co1,hSS2.trans hT,rfl,by rw [← HR.out];exact hC,by rw [← HR.out];exact hst⟩
theorem ZX (ih:Ok p f) (hst:St S M w) (hp:Du S si sn p) (hw:DI p) (hk:k < p.2.1.length) (hf:k+1≤f+1) (hq:0≤pos∧pos+4 * (BL p.2.1 (f+1) k:Int)≤100000) (hv:3≤(p.2.1[k]).1∧(p.2.1[k]).1≤10) :
  Ad Tryz.prog 64 [CR si sn p,.int .i64 (k:Int),.int .i64 pos] w (DJ S M (AQ p (f+1) k pos)):=by
 unfold Ad;obtain ⟨R,hR⟩:∃ R,AQ p (f+1) k pos=R:=⟨_,rfl⟩
 rw [hR];rw [AQ,BG hk] at hR;simp only at hR;have hn:=hp.n;have hln:=hp.ln;have hli:=hp.li;have hvl:=E0 p;have hb:FP p:=⟨hp.li,hp.ln,hp.lo⟩
 have hpr:=GM hp;rw [if_neg (by omega),if_neg (by omega),if_neg (by omega),if_neg (by omega),if_neg (by omega),if_neg (by omega),if_neg (by omega),if_neg (by omega),if_neg (by omega)] at hR;have e1:(p.2.1[k].1 == 1)=false:=beq_eq_false_iff_ne.2 (by omega);have e2:(p.2.1[k].1 == 2)=false:=beq_eq_false_iff_ne.2 (by omega);have e12:(p.2.1[k].1 == 12)=false:=beq_eq_false_iff_ne.2 (by omega);have e13:(p.2.1[k].1 == 13)=false:=beq_eq_false_iff_ne.2 (by omega);have e15:(p.2.1[k].1 == 15)=false:=beq_eq_false_iff_ne.2 (by omega);have e16:(p.2.1[k].1 == 16)=false:=beq_eq_false_iff_ne.2 (by omega);have e11:(p.2.1[k].1 == 11)=false:=beq_eq_false_iff_ne.2 (by omega);have e14:(p.2.1[k].1 == 14)=false:=beq_eq_false_iff_ne.2 (by omega);have e17:(p.2.1[k].1 == 17)=false:=beq_eq_false_iff_ne.2 (by omega);have hp0:=hp;have hvr:=hv;have HR:=Lib.hid hR;clear hR hv hp;go_enter Tryz.func64,Tryz.ntmps64;repeat' ((apply Z1 ());first|(apply gK ();go_step)|(apply sB ();clear hst;intro bx w hst)|fail)
 refine wp_region_lit ?_;repeat' (first|(apply gK ();go_step)|apply sX ()|(apply sD ();intro cl hcl)|(apply sI ();intro v hp)|(apply sA ();clear hst;intro bk w hst)|fail)
 obtain ⟨so,rfl,ho,hI1,hI2,hI3⟩:=BT hcl;rw [show Rep.agg Nd=true from rfl];(try refine nX ?_);repeat' ((apply Z2 ());first|(apply gK ();go_step)|(apply sS ();clear hst;intro w hst)|fail)
 obtain ⟨S1,hS1,hst1,hpn⟩:=AC (α:=Nd) hst hcl rfl;clear hst;obtain ⟨S2,hS2,hst,hpp⟩:=AC (α:=Pg) hst1 (Rep.mono hS1 hpr) rfl;clear hst1 hcl hpr ho hn;replace hpn:=Pt.mono hS2 hpn;generalize Value.pointer (some ⟨bk,0,none⟩)=pN at *;generalize Value.pointer (some ⟨bx,0,none⟩)=pP at *;have hSS2:=hS1.trans hS2;clear hS1 hS2;have HV:=Lib.hid (fun i (hi:i < (p.2.1[k]).2.2.2.1.length)=>JX (f:=f) hk hi);have HB:=Lib.hid (fun i (hi:i < (p.2.1[k]).2.2.2.1.length) q=>Hs (f:=f) hw hk i hi q)
 have HM:=Lib.hid (fun i=>Iu (AQ p f) (BL p.2.1 f) ((p.2.1[k]).2.2.2.1.take i) pos [] (fun o ho q=>by
  obtain ⟨j,hj,rfl⟩:=List.getElem_of_mem (List.mem_of_mem_take ho);rw [← Sw hj];have:=Hs (f:=f) hw hk j hj q;rwa [← Sw hj] at this))
 have HC:=Lib.hid (fun i (hi:i < (p.2.1[k]).2.2.2.1.length) {S:Ac} {M:List Chunk} (w:World) (hst:St S M w) cl (hR:Rep.R S cl p) pos hq=>I4 ih hw hk hf i hi w hst cl hR pos hq);have hol:=hp0.lo _ (List.getElem_mem hk);have hvc:BL p.2.1 (f+1) k≤25000:=by omega
 repeat' ((apply P4 ());first|apply sK ()|(apply gK ();go_step)|(apply sN ();intro hI)|(apply sI ();intro v hp)|fail)
 replace hst:=hst.nil 186 3;repeat' (first|(apply gK ();go_step)|fail)
 go_loopw [9,10] (fun u9 u10 wr=>∃ (i n:Nat) (T:Ac) (a1:Option Addr) (k1:Nat) (co:List Value),i≤(p.2.1[k]).2.2.2.1.length∧S2.Le T∧u9=.slice a1 n k1∧u10=.int .i64 (i:Int)∧Hid (n=(Ck (AQ p f) ((p.2.1[k]).2.2.2.1.take i) pos []).length)∧RL T co (Ck (AQ p f) ((p.2.1[k]).2.2.2.1.take i) pos [])∧St T (.sl (.slice a1 n k1) 186 3 n co::M) wr) (fun _ v _=>(p.2.1[k]).2.2.2.1.length - (intOf v).toNat)
 case atStart=>exact ⟨0,0,S2,none,0,[],Nat.zero_le _,Ac.Le.refl S2,rfl,rfl,Lib.hid (by rw [List.take_zero,Ck];rfl),by rw [List.take_zero,Ck];exact RL.nil,hst⟩
 case round =>
  clear hst;obtain ⟨i,n,T,a1,k1,co1,hi2,hT,rfl,rfl,hnl,hC,hst⟩:=hrel;have hpn:=Pt.mono hT hpn;have hpp:=Pt.mono hT hpp;have hone:=Bh (k:=0) hst rfl;by_cases hlt:i < (p.2.1[k]).2.2.2.1.length
  ·have hv1:=HV.out i hlt;have hm1:=HM.out i;apply b6 ()
  ·obtain rfl:i=(p.2.1[k]).2.2.2.1.length:=by omega
   rw [List.take_length] at hC hnl;have hm1:=HM.out (p.2.1[k]).2.2.2.1.length;rw [List.take_length,← hnl.out] at hm1;simp only [List.length_nil,Nat.zero_add] at hm1;have hvk:((p.2.1[k]).2.2.2.1.map (BL p.2.1 f)).sum+1≤BL p.2.1 (f+1) k:=by rw [BL,BG hk];omega
   have hnb:n≤100000:=by omega
   clear hm1 hvk;generalize Ck (AQ p f) (p.2.1[k]).2.2.2.1 pos []=O at *;obtain rfl:=hnl.out;have hox:(p.2.1[k]).1.toNat < JA.length:=by show _ < 11;omega
   have hog:JA.getD (p.2.1[k]).1.toNat 0=JA[(p.2.1[k]).1.toNat]:=by rw [List.getD_eq_getElem?_getD,List.getElem?_eq_getElem hox];rfl
   have HR2:Hid (O++i1 (JA[(p.2.1[k]).1.toNat]) 0 0=R):=Lib.hid (by rw [← HR.out,hog])
   have hoi:Au (JA[(p.2.1[k]).1.toNat]):=by
    have:∀ x∈JA,0≤x∧x≤100000:=by decide
    exact Aj (this _ (List.getElem_mem hox))
   have cO:=fun {S':Ac} {M:List Chunk} (w:World) (hst:St S' M w)=>Ml w hst (JA[(p.2.1[k]).1.toNat]) 0 0 hoi (Aj (by decide)) (Aj (by decide))
   clear HR hog;repeat' (first|apply sK ()|(apply gK ();go_step)|apply sX ()|(apply sN ();intro hI)|(apply sL ();intro v hvl hv1)|(apply sI ();intro v hp)|fail)
   refine AA (vs:=[.int .i64 0,.int .i64 0,.int .i64 0,.int .i64 4,.int .i64 5,.int .i64 6,.int .i64 7,.int .i64 8,.int .i64 9,.int .i64 10,.int .i64 11]) hst Aa Aa rfl rfl (by simp [Value.cells]) rfl (by omega) (by omega) ?_;clear hst;intro x w hst;obtain ⟨S5,so5,hS5,rfl,hx5,hst5⟩:=ED hst (cZ (S:=T)) rfl;clear hst;have hst:=hst5;clear hst5;have hpn:=Pt.mono hS5 hpn;(try refine nX ?_);repeat' (first|(apply gK ();go_step)|(apply kc ();refine sc (cO _ hst) ?_;clear hst;rintro v w ⟨S3,so3,hS3,rfl,hX3,hst⟩)|(apply sN ();intro hI)|(apply sI ();intro v hp)|fail)
   refine A2 (α:=EY) hst Ab Ab SlIn.h hX3 Aa Aa Aa (by show (O.length+1) * _≤_;omega) (by show O.length+1≤_;omega) (by decide) ?_;clear hst;intro x w d hd hst;(try refine nX ?_);obtain ⟨ay,cy,rfl⟩:=sl_formk (k:=0) hst rfl;repeat' (first|(apply gK ();go_step)|fail)
   go_ret;exact ⟨_,rfl,S3,(ay,O.length+1,cy),co1++d,hSS2.trans (hT.trans (hS5.trans hS3)),rfl,by rw [← HR2.out];exact (hC.mono (hS5.trans hS3)).append hd,by rw [← HR2.out,List.length_append];exact hst⟩
end
end Go.Proofs.YtmmbidoldegemaaGreatDoor
