/- Part 42 of the proof that the law of the last part holds; no conditions. -/
import Derived.Test.YtmmbidoldegemaaGreatDoorZ22
import Derived.Test.YtmmbidoldegemaaGreatDoorZ40
set_option linter.unusedSimpArgs false
set_option linter.unusedVariables false
set_option maxRecDepth 8000
set_option maxHeartbeats 8000000
namespace Go.Proofs.YtmmbidoldegemaaGreatDoor
open Go.RowKit Go.Sl
def FW (outs:List (List Int)) (p:Pn):List (List Int):=outs.modify p.1.toNat fun o=>o.set p.2.1.toNat p.2.2.1
def DN (hs:List Hd):List (List Int):=hs.map fun h=>List.replicate h.2.2.1.toNat (-1)
def KP (hs:List Hd) (ps:List Pn):List (List Int):=ps.foldl FW (DN hs)
def F9:List Pg→List Hd→List (List Int)→List (List Int)→Option (List (List Int))
 | p::ps,h::hs,o::os,acc =>
   if p.2.1.length=0 then F9 ps hs os (acc++[o])
   else match Dv (Bx p.2.1 p.2.2.1 p.2.2.2.1) o with
    | none=>none
    | some l=>if p.2.2.2.1≠h.2.2.1 then none else F9 ps hs os (acc++[l])
 | _,_,_,acc=>some acc
def U5:Option (List (List Int))→List (List Int)×Int
 | none=>([],16)
 | some o=>(o,0)
def Fu (ev:Br) (ps:List Pg):List (List Int)×Int :=
 if ps.length≠ev.2.1.length∨ev.2.1.any Dr=true then ([],1)
 else if CJ ev.2.1 [] ev.2.2.1≠0 then ([],((CJ ev.2.1 [] ev.2.2.1:Nat):Int))
 else U5 (F9 ps ev.2.1 (KP ev.2.1 ev.2.2.1) [])
theorem UP (a:Chunk) (L:List BD) (e:BD) (M:List Chunk):List.Perm (BC e::a::(L.map BC++M)) (a::((L++[e]).map BC++M)):=by
 have h1:((L++[e]).map BC++M)=L.map BC++(BC e::M):=by simp
 rw [h1];exact (List.Perm.swap a (BC e) _).trans (List.Perm.cons a List.perm_middle.symm)
theorem NZ (a:Chunk) (l1 l2:List BD) (e:BD) (M:List Chunk):List.Perm (BC e::a::((l1++l2).map BC++M)) (a::((l1++e::l2).map BC++M)):=by
 have h1:((l1++e::l2).map BC++M)=l1.map BC++(BC e::(l2.map BC++M)):=by simp
 have h2:((l1++l2).map BC++M)=l1.map BC++(l2.map BC++M):=by simp
 rw [h1,h2];exact (List.Perm.swap a (BC e) _).trans (List.Perm.cons a List.perm_middle.symm)
theorem UQ (a:Chunk) (L:List BD) (M:List Chunk):List.Perm (a::(L.map BC++M)) (L.map BC++(a::M)):=List.perm_middle.symm
theorem Sr {hs:List Hd} {i:Nat} (h:i < hs.length):DN (hs.take (i+1))=DN (hs.take i)++[List.replicate (hs[i]).2.2.1.toNat (-1)]:=by
 unfold DN;rw [List.take_succ_eq_append_getElem h,List.map_append];rfl
theorem Ul (outs:List (List Int)) (p:Pn):(FW outs p).map List.length=outs.map List.length:=by
 unfold FW;apply List.ext_getElem?;intro i;rw [List.getElem?_map,List.getElem?_map,List.getElem?_modify]
 cases outs[i]? with
 | none=>simp
 | some o=>by_cases h:p.1.toNat=i<;>simp [h]
theorem IA:∀ (ps:List Pn) (outs:List (List Int)),(ps.foldl FW outs).map List.length=outs.map List.length
 | [],outs=>rfl
 | p::ps,outs=>by rw [List.foldl_cons,IA ps,Ul]
theorem Xh {hs:List Hd} {ps:List Pn} (hc:CJ hs [] ps=0) (es:List BD) (k:Nat) (hk:k < ps.length) (he:es.map (·.xs)=(ps.take k).foldl FW (DN hs)) :
  ∃ l1 e l2,es=l1++e::l2∧(ps[k]).1=((l1.length:Nat):Int)∧0≤(ps[k]).2.1∧(ps[k]).2.1.toNat < e.xs.length ∧
   (∀ e':BD,e'.xs=e.xs.set (ps[k]).2.1.toNat (ps[k]).2.2.1→(l1++e'::l2).map (·.xs)=(ps.take (k+1)).foldl FW (DN hs)):=by
 obtain ⟨h0,h,hh,q0,q1,_⟩:=VK ps [] hc _ (List.getElem_mem hk)
 have hl:es.length=hs.length:=by
  have:=congrArg List.length he;have h2:=congrArg List.length (IA (ps.take k) (DN hs));simp only [List.length_map] at this h2;rw [this,h2];unfold DN;rw [List.length_map]
 have hj:(ps[k]).1.toNat < es.length:=by rw [hl];exact (List.getElem?_eq_some_iff.1 hh).1
 have hsp:es=es.take (ps[k]).1.toNat++es[(ps[k]).1.toNat]::es.drop ((ps[k]).1.toNat+1):=by
  rw [← List.drop_eq_getElem_cons hj,List.take_append_drop]
 have hl1:(es.take (ps[k]).1.toNat).length=(ps[k]).1.toNat:=by rw [List.length_take];omega
 refine ⟨es.take (ps[k]).1.toNat,es[(ps[k]).1.toNat],es.drop ((ps[k]).1.toNat+1),hsp,by rw [hl1];omega,q0,?_,?_⟩
 ·have hln:(es[(ps[k]).1.toNat]).xs.length=h.2.2.1.toNat:=by
   have h3:=IA (ps.take k) (DN hs);rw [← he,List.map_map] at h3;have h4:=congrArg (fun l=>l[(ps[k]).1.toNat]?) h3;simp only [List.getElem?_map,DN,List.map_map] at h4;rw [List.getElem?_eq_getElem hj,hh] at h4
   simpa using h4
  rw [hln];omega
 ·intro e' he';rw [List.take_succ_eq_append_getElem hk,List.foldl_append,← he];show _=FW (es.map (·.xs)) ps[k];unfold FW;apply List.ext_getElem?;intro i;rw [List.getElem?_modify,List.getElem?_map,List.getElem?_map];by_cases hi:(ps[k]).1.toNat=i
  ·subst hi;rw [List.getElem?_append_right (by omega),hl1,Nat.sub_self,List.getElem?_cons_zero,List.getElem?_eq_getElem hj];simp [he']
  ·rcases Nat.lt_or_ge i (ps[k]).1.toNat with hlt|hge
   ·rw [List.getElem?_append_left (by omega),List.getElem?_take,if_pos hlt]
    cases es[i]?<;>simp [hi]
   ·rw [List.getElem?_append_right (by omega),hl1];obtain ⟨d,hd⟩:∃ d,i - (ps[k]).1.toNat=d+1:=⟨i - (ps[k]).1.toNat - 1,by omega⟩
    rw [hd,List.getElem?_cons_succ,List.getElem?_drop,show (ps[k]).1.toNat+1+d=i by omega]
    cases es[i]?<;>simp [hi]
theorem QX {S:Ac}:∀ {es:List BD},(∀ e∈es,RSl S e.v e.xs)→RL S (es.map BD.v) (es.map (·.xs))
 | [],_=>RL.nil
 | e::es,h=>Fj (h e List.mem_cons_self) (QX fun x hx=>h x (List.mem_cons_of_mem _ hx))
theorem eJ {ev:Br} (h:ev.2.1.any Dr=false) (ok:Nz ev):∀ x∈ev.2.1,∃ n:Nat,x.2.2.1=(n:Int)∧n≤8:=fun x hx=>by
 rw [List.any_eq_false] at h;have:=h x hx;unfold Dr at this;simp only [Bool.or_eq_true,decide_eq_true_eq] at this;exact ⟨x.2.2.1.toNat,by omega,by omega⟩
theorem aB {es:List BD} (h:∀ e∈es,∀ x∈e.xs,Au x) (n:Nat) {k:Int×Int} {ad:Option Addr} {cap:Nat}:∀ e∈es++[⟨k,ad,cap,List.replicate n (-1)⟩],∀ x∈e.xs,Au x:=fun e he x hx=>by
 rcases List.mem_append.1 he with he|he
 ·exact h e he x hx
 ·obtain rfl:=List.mem_singleton.1 he;obtain rfl:=List.eq_of_mem_replicate hx;unfold Au;omega
theorem aA {l1 l2:List BD} {k:Int×Int} {ad:Option Addr} {cap:Nat} {xs:List Int} {t:Int} (h:∀ e∈l1++⟨k,ad,cap,xs⟩::l2,∀ x∈e.xs,Au x) (ht:Au t) {q:Nat} (k2:Int×Int) (ad2:Option Addr) (cap2:Nat):∀ e∈l1++⟨k2,ad2,cap2,xs.set q t⟩::l2,∀ x∈e.xs,Au x:=fun e he x hx=>by
 rcases List.mem_append.1 he with he|he
 ·exact h e (List.mem_append_left _ he) x hx
 ·rcases List.mem_cons.1 he with rfl|he
  ·rcases List.mem_or_eq_of_mem_set hx with hx|rfl
   ·exact h _ (List.mem_append_right _ List.mem_cons_self) x hx
   ·exact ht
  ·exact h e (List.mem_append_right _ (List.mem_cons_of_mem _ he)) x hx
theorem aW (l1:List BD) (e:BD) (l2:List BD):(((l1++e::l2).map BD.v).drop (l1.length * 1)).take 1=[e.v]:=by
 rw [Nat.mul_one,List.map_append,List.drop_left' (by simp),List.map_cons,List.take_succ_cons,List.take_zero]
theorem VN (l1:List BD) (k:Int×Int) (ad:Option Addr) (cap:Nat) (xs:List Int) (l2:List BD) (q:Nat) (t:Int):(l1++⟨k,ad,cap,xs.set q t⟩::l2).map BD.v=(l1++⟨k,ad,cap,xs⟩::l2).map BD.v:=by
 rw [List.map_append,List.map_append,List.map_cons,List.map_cons];show _++(Value.slice ad (xs.set q t).length cap::_)=_;rw [List.length_set]
theorem UR {hs:List Hd} (h:∀ x∈hs,∃ n:Nat,x.2.2.1=(n:Int)∧n≤8) (ps:List Pn):∀ o∈ps.foldl FW (DN hs),o.length≤8:=fun o ho=>by
 have h1:o.length∈(ps.foldl FW (DN hs)).map List.length:=List.mem_map_of_mem ho;rw [IA] at h1;unfold DN at h1;rw [List.map_map,List.mem_map] at h1;obtain ⟨x,hx,e⟩:=h1;obtain ⟨n,hn,h8⟩:=h x hx;simp only [Function.comp_apply,List.length_replicate] at e;omega
theorem Zl {α:Type} {acc os:List α} {o l:α} {k:Nat} (h:acc.length=k):(acc++o::os).set k l=acc++[l]++os:=by
 subst h;rw [List.set_append_right _ _ (Nat.le_refl _),Nat.sub_self,List.set_cons_zero,List.append_assoc];rfl
theorem Pk {hs:List Hd} {os acc:List (List Int)}:F9 [] hs os acc=some acc:=by simp [F9]
theorem da {S:Ac} {c:List Value} {xs:List (List Int)} (h:RL S c xs):∀ o∈xs,∀ x∈o,Au x:=fun o ho x hx=>by
 obtain ⟨i,hi,rfl⟩:=List.getElem_of_mem ho;obtain ⟨v,_,hr⟩:=h.2 i _ (List.getElem?_eq_getElem hi);obtain ⟨j,hj,rfl⟩:=List.getElem_of_mem hx;obtain ⟨cs,hcs⟩:=KI hr hj;exact hcs.2
theorem ab {p:Pg} {ps:List Pg} {h:Hd} {hs:List Hd} {o:List Int} {os acc} (hz:p.2.1.length=0):F9 (p::ps) (h::hs) (o::os) acc=F9 ps hs os (acc++[o]):=by rw [F9,if_pos hz]
theorem ae {p:Pg} {ps:List Pg} {h:Hd} {hs:List Hd} {o:List Int} {os acc} (hz:¬ p.2.1.length=0) (hi:Dv (Bx p.2.1 p.2.2.1 p.2.2.2.1) o=none):F9 (p::ps) (h::hs) (o::os) acc=none:=by rw [F9,if_neg hz,hi]
theorem Nl {p:Pg} {ps:List Pg} {h:Hd} {hs:List Hd} {o l:List Int} {os acc} (hz:¬ p.2.1.length=0) (hi:Dv (Bx p.2.1 p.2.2.1 p.2.2.2.1) o=some l):F9 (p::ps) (h::hs) (o::os) acc=if p.2.2.2.1≠h.2.2.1 then none else F9 ps hs os (acc++[l]):=by rw [F9,if_neg hz,hi]
instance jR:Key Tryz.prog 50 Rg 3:=by
 refine JD (d:=2) Tryz.underlying50 kr kr ?_;simp only [List.toList_toArray]
 haveI k2:KeyFs Tryz.prog [] 32 Unit 0:=Km
 exact C9 (d:=2) (d':=2) rfl kr (kb:=C9 (d:=2) (d':=0) rfl kr (kb:=k2))
instance kY:EqTy Tryz.prog 50:=⟨by kernel_rfl,by kernel_rfl,by kernel_rfl⟩
def Jg (ev:Br) (r:Rg):Int:=if CJ ev.2.1 [] ev.2.2.1≠0 then ((CJ ev.2.1 [] ev.2.2.1:Nat):Int) else if Dn ev.1 ev.2.1=r then 0 else 16
theorem Kw {S M} (w:World) (hst:St S M w) (hG:Bo S) (cs:List Value) (ev:Br) (hR:Rep.R S cs ev) (ok:Nz ev) (r:Rg) (hr:Er r) :
  Ad Tryz.prog 19 [.agg cs.toArray,K9 r] w fun v w'=>v=.int .i64 (Jg ev r)∧St S M w':=by
 unfold Ad;obtain ⟨R,hRR⟩:∃ R,Jg ev r=R:=⟨_,rfl⟩
 rw [hRR];have HR:=Lib.hid hRR;clear hRR;go_enter Tryz.func19,Tryz.ntmps19;repeat' ((apply Z1 ());first|(apply gK ();go_step)|(apply sC ();clear hst;intro bx w hst)|fail)
 obtain ⟨S1,hS1,hst1,hpr⟩:=AC (α:=Rg) hst (C1 hr) (Rep.len (C1 (S:=S) hr));generalize Value.pointer (some ⟨bx,0,none⟩)=pR at *;clear hst;rename Nat=>bz
 obtain ⟨S2,hS2,hst,hpe⟩:=AC (α:=Br) hst1 (Rep.mono hS1 hR) (Rep.len hR);clear hst1;replace hpr:=Pt.mono hS2 hpr;generalize Value.pointer (some ⟨bx,0,none⟩)=pE at *;have hG2:=Bo.mono (hS1.trans hS2) hG;have cC:=fun {M:List Chunk} (w:World) (hst:St S2 M w) (cl:List Value) (hR:Rep.R S2 cl ev)=>RE w hst hG2 cl ev hR ok
 have cG:=fun {M:List Chunk} (w:World) (hst:St S2 M w) (cl:List Value) (hR:Rep.R S2 cl ev)=>Qj w hst hG2 cl ev hR hR.2.1.1 (fun h hh=>(ok.hd h hh).1) ok.nh
 have hok:=KO ev.1 ev.2.1;unfold Jg at HR;generalize CJ ev.2.1 [] ev.2.2.1=c at *;generalize Dn ev.1 ev.2.1=q at *;have hle:=hS1.trans hS2;clear hS1 hS2 hR;by_cases h0:c=0
 ·subst h0;by_cases hq:q=r
  ·have hdc:decide (q=r)=true:=decide_eq_true hq;have HN:Hid ((0:Int)=R):=Lib.hid (by rw [← HR.out,if_neg (by decide),if_pos hq]);apply iC ()
  ·have hdc:decide (q=r)=false:=decide_eq_false hq;have HN:Hid ((16:Int)=R):=Lib.hid (by rw [← HR.out,if_neg (by decide),if_neg hq]);apply iC ()
 ·have hz:(((c:Nat):Int) != 0)=true:=bne_iff_ne.2 (by omega);have HN:Hid (((c:Nat):Int)=R):=Lib.hid (by rw [← HR.out,if_pos h0]);clear HR h0;repeat' (first|apply sK ()|(apply gK ();go_step)|(with_reducible refine kL ?_;refine An hst (Av (y:=ev) Ab hpe Aa) ?_;rintro v34 ⟨c34,rfl,hc34⟩<;>(try refine nY ?_))|(apply kc ();refine sc (cC _ hst c34 hc34) ?_;clear hst;rintro v w ⟨rfl,hst⟩)|fail)
  go_ret;exact ⟨_,rfl,by rw [← HN.out];rfl,St.weaken hle hst⟩
end Go.Proofs.YtmmbidoldegemaaGreatDoor
