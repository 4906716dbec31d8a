/- Part 14 of a proof; no conditions. -/
import Derived.Test.YtmmbidoldegemaaGreatDoorZ12
set_option linter.all false
set_option maxRecDepth 8000
set_option maxHeartbeats 8000000
namespace Go.Proofs.YtmmbidoldegemaaGreatDoor
open Go.RowKit Go.Sl Go.Proofs.Tryz
theorem Zv (xs):(Lj xs).length≤10+10 * xs.length:=by
 have:=QE xs;have:=Dq xs.length;unfold Lj;rw [List.length_append];omega
def BX (i took:Int):Dg:=⟨DO 10 [Bx i,Bx took]⟩
def Np (i n:Int):Dg:=⟨DO 8 [Bx i,Bx n]⟩
theorem Hu (i t):(BX i t).l.length=16:=Cx _ _
theorem O1 (i t):(Np i t).l.length=16:=Cx _ _
theorem Tn {a b n m} (ha:a.length≤n) (hb:b.length≤m):CT [a,b]≤n+m+20:=by simp [CT];omega
theorem iu {a n} (ha:a.length≤n):CT [a]≤n+10:=by simp [CT];omega
theorem N9 {S M} (w) (V:St S M w) (hG:Bu S) (i t) (hi:Au i) (ht:Au t):
  Ac prog 76 [.int .i64 i,.int .i64 t] w fun v w'=>v=Cu (BX i t)∧St S M w':=by
 unfold Ac
 haveI:LenIs (BX i t).l 16:=⟨Hu i t⟩
 go_enter func76,ntmps76;repeat' (first|(apply O ();go_step)|(apply kc ();refine sc (Ha _ V i hi) ?_;clear V;rintro v w ⟨S1,hS1,h1,h11,V⟩)|(apply sZ ();clear V;intro bk w V)|fail)
 repeat' (first|(apply kc ();refine sc (Ha _ V t ht) ?_;clear V;rintro v w ⟨S2,hS2,h2,h21,V⟩)|fail)
 refine Eg V (.cons (h1.mono hS2) (.cons h2 .nil)) Y Y rfl rfl (by omega) ?_;clear V;intro S3 u w hS3 hu hu1 V;apply nZ ();repeat' (first|(apply tS ();refine Gx V rfl N.h Y X Y IK ?_;clear V;intro w V<;>apply nZ ()<;>(try replace V:=nH V))|(apply O ();go_step)|(apply kc ();refine sc (Fa _ V (((hG.mono hS1).mono hS2).mono hS3) 10 (by omega) _ _ hu (Nat.le_trans (Tn (Dq i) (Dq t)) (by omega))) ?_;clear V;rintro v w ⟨rfl,V⟩)|fail)
 apply gO ()
theorem bW {S M} (w) (V:St S M w) (hG:Bu S) (i t) (hi:Au i) (ht:Au t):
  Ac prog 77 [.int .i64 i,.int .i64 t] w fun v w'=>v=Cu (Np i t)∧St S M w':=by
 unfold Ac
 haveI:LenIs (Np i t).l 16:=⟨O1 i t⟩
 go_enter func77,ntmps77;repeat' (first|(apply O ();go_step)|(apply kc ();refine sc (Ha _ V i hi) ?_;clear V;rintro v w ⟨S1,hS1,h1,h11,V⟩)|(apply sZ ();clear V;intro bk w V)|fail)
 repeat' (first|(apply kc ();refine sc (Ha _ V t ht) ?_;clear V;rintro v w ⟨S2,hS2,h2,h21,V⟩)|fail)
 refine Eg V (.cons (h1.mono hS2) (.cons h2 .nil)) Y Y rfl rfl (by omega) ?_;clear V;intro S3 u w hS3 hu hu1 V;apply nZ ();repeat' (first|(apply tS ();refine Gx V rfl N.h Y X Y IK ?_;clear V;intro w V<;>apply nZ ()<;>(try replace V:=nH V))|(apply O ();go_step)|(apply kc ();refine sc (Fa _ V (((hG.mono hS1).mono hS2).mono hS3) 8 (by omega) _ _ hu (Nat.le_trans (Tn (Dq i) (Dq t)) (by omega))) ?_;clear V;rintro v w ⟨rfl,V⟩)|fail)
 apply gO ()
def DD (lf:Int→Int→Dg) (xs:List Int):List Dg:=(List.range xs.length).map fun (j:Nat)=>lf (j:Int) (xs.getD j 0)
theorem G9 (lf xs):(DD lf xs).length=xs.length:=by simp [DD]
def DZ (lf:Int→Int→Dg) (xs:List Int) (n:Nat):List Dg:=((List.range n).map fun (j:Nat)=>lf (j:Int) (xs.getD j 0))++List.replicate (xs.length - n) ⟨List.replicate 16 0⟩
theorem Rt (lf xs) {n} (h:n≤xs.length):(DZ lf xs n).length=xs.length:=by simp [DZ];omega
theorem Qm (lf xs) {i} (h:i < xs.length):(DZ lf xs i).set i (lf (i:Int) (xs.getD i 0))=DZ lf xs (i+1):=by
 have e:xs.length - i=(xs.length - (i+1))+1:=by omega
 rw [DZ,DZ,List.range_succ,List.map_append,List.set_append,if_neg (by simp),e,List.replicate_succ];simp
theorem Md (lf xs):DZ lf xs xs.length=DD lf xs:=by simp [DZ,DD]
theorem Nv {lf} (hl:∀ i t,(lf i t).l.length=16) (xs n):∀ d∈DZ lf xs n,d.l.length=16:=by
 intro d hd;rcases List.mem_append.1 hd with h|h
 ·obtain ⟨j,_,rfl⟩:=List.mem_map.1 h;exact hl _ _
 ·obtain ⟨_,rfl⟩:=List.mem_replicate.1 h;rfl
theorem T9 {lf} (hl:∀ i t,(lf i t).l.length=16) (xs):∀ d∈DD lf xs,d.l.length=16:=by
 rw [← Md];exact Nv hl xs _
theorem Zz (ds) (h:∀ d∈ds,d.l.length=16):(cF EN ds).length=ds.length * 16:=by
 induction ds with
 | nil=>rfl
 | cons d r ih =>
  have h1:=h d (.head _);have h2:=ih fun x hx=>h x (.tail _ hx)
  have e:cF EN (d::r)=u8s d.l++cF EN r:=rfl;rw [e,List.length_append,h2,Bh,h1,List.length_cons];omega
theorem SE:∀ (ds:List Dg) (h:∀ d∈ds,d.l.length=16) (j:Nat) (hj:j < ds.length) (d:Dg),(cF EN ds).take (j * 16)++u8s d.l++(cF EN ds).drop (j * 16+16)=cF EN (ds.set j d)
 | [],_,_,hj,_=>by simp at hj
 | e::r,h,j,hj,d=>by
  have h1:=h e (.head _);have e1:cF EN (e::r)=u8s e.l++cF EN r:=rfl;have hl:(u8s e.l).length=16:=by rw [Bh,h1]
  cases j with
  | zero =>
   have e2:cF EN ((e::r).set 0 d)=u8s d.l++cF EN r:=rfl;have h3:=List.drop_left (l₁:=u8s e.l) (l₂:=cF EN r);rw [hl] at h3;rw [e2,e1,Nat.zero_mul,List.take_zero,List.nil_append,Nat.zero_add,h3]
  | succ j =>
   have e2:cF EN ((e::r).set (j+1) d)=u8s e.l++cF EN (r.set j d):=rfl;have ih:=SE r (fun x hx=>h x (.tail _ hx)) j (by simpa using hj) d;rw [e2,e1,← ih,List.take_append,List.take_of_length_le (by omega),List.drop_append,List.drop_of_length_le (by omega),hl,List.nil_append,show (j+1) * 16 - 16=j * 16 by omega,show (j+1) * 16+16 - 16=j * 16+16 by omega];simp only [List.append_assoc]
theorem Xq (n):(List.replicate n (u8s (List.replicate 16 0))).flatten=cF EN (List.replicate n ⟨List.replicate 16 0⟩):=by
 simp [cF,EN]
theorem R0 {S M} (w) (V:St S M w) (hG:Bu S) (vl xs) (hl:RSl S vl xs) (hm:xs.length≤4000) (f lf) (hlf:∀ i t,(lf i t).l.length=16) (hb:Body prog f) (cl:∀ {S M} (w:World),St S M w→Bu S→∀ i t:Int,Au i→Au t→Ac prog f [.int .i64 i,.int .i64 t] w fun v w'=>v=Cu (lf i t)∧St S M w'):
  Ac prog 75 [vl,.func (.func f) #[] #[]] w fun v w'=>v=Cu (Cg (DD lf xs))∧St S M w':=by
 unfold Ac;have hl1:=hl.oneCell
 haveI:=hb
 haveI:LenIs (Cg (DD lf xs)).l 16:=⟨CA _⟩
 have hi64:=RZ hl;go_enter func75,ntmps75;repeat' (first|(apply O ();go_step)|apply sY ()|(apply sZ ();clear V;intro bk w V)|fail)
 refine JI (n:=xs.length) V (by infer_instance) (by infer_instance) X X (by omega) (by omega) ?_;clear V;intro vw w V;rename Nat=>b4
 have V:St S (.sl vw 23 16 xs.length (cF EN (DZ lf xs 0))::.box b4 (u8s (List.replicate 16 0)) 23::M) w:=by
  have e:DZ lf xs 0=List.replicate xs.length ⟨List.replicate 16 0⟩:=by simp [DZ]
  rw [e,← Xq];exact V
 have hvw:=Go.Sl.AY V;apply nZ ();repeat' (first|(apply O ();go_step)|apply sY ()|fail)
 go_loopw [13] (fun v wr=>∃ (i:Nat) (ds:List Dg),i≤xs.length∧v=.int .i64 i∧Hid (ds=DZ lf xs i)∧(xs.length≤ds.length∧ds.length≤xs.length)∧St S (.sl vw 23 16 xs.length (cF EN ds)::.box b4 (u8s (List.replicate 16 0)) 23::M) wr) (fun v _=>xs.length - (intOf v).toNat)
 case atStart=>exact ⟨0,_,Nat.zero_le _,rfl,Lib.hid rfl,by rw [Rt _ _ (Nat.zero_le _)];omega,V⟩
 case round =>
  clear V;obtain ⟨i,ds,hi,rfl,hds,hdl,V⟩:=hrel;have hd16:∀ d∈ds,d.l.length=16:=by rw [hds.out];exact Nv hlf xs i
  by_cases hlt:i < xs.length
  ·have hx:=hi64 xs[i] (List.getElem_mem hlt);have hi2:Au (i:Int):=by unfold Au;omega
   have hsucc:=Lib.hid (Qm lf xs hlt);have hgd:=Lib.hid (show xs.getD i 0=xs[i] by rw [List.getD_eq_getElem?_getD,List.getElem?_eq_getElem hlt];rfl);have hcl:=Zz ds hd16;have hset:=Lib.hid (SE ds hd16 i (by omega) (lf (i:Int) xs[i]));have hl16:=hlf (i:Int) xs[i];repeat' (first|(apply tI ();(first|refine An V (Aq X Ak rfl Y Y Af Af) ?_|refine An V (Ao V X SlIn.h rfl Y Y Af Af) ?_);rintro v L;(try simp only [Int.toNat_natCast,Int.toNat_natCast_add_one,Int.reduceToNat] at L)<;>apply nZ ())|(apply O ();go_step)|(apply kc ();refine Eh (cl _ V hG (i:Int) xs[i] hi2 hx) rfl Y rfl rfl ?_;clear V;rintro v w ⟨rfl,V⟩<;>apply nZ ()<;>(try replace V:=nH V))|(apply tL ();refine An V (Am X Ak Y) ?_;rintro v ⟨rfl,hI⟩<;>apply nZ ())|fail)
   refine BV V X Ak SlIn.h Y X (cs:=u8s (lf (i:Int) xs[i]).l) rfl (by rw [Bh];exact hl16) (List.all_eq_true.2 (Fh _)) (by omega) ?_;clear V;intro w V;have V:St S (.sl vw 23 16 xs.length (cF EN (ds.set i (lf (i:Int) xs[i])))::.box b4 (u8s (List.replicate 16 0)) 23::M) w:=by rw [← hset.out];exact V
   apply nZ ();repeat' (first|(apply O ();go_step)|fail)
   go_roundw
   case rel=>exact ⟨i+1,_,by omega,by go_num,Lib.hid (by rw [hds.out,← hgd.out,hsucc.out]),by rw [List.length_set];omega,V⟩
   case measure=>simp [intOf];omega
  ·obtain rfl:i=xs.length:=by omega
   obtain ⟨S1,hS1,V,hv⟩:=St.freeze (α:=Dg) V (LB hd16) (by omega);have hv1:=hv.oneCell;have hE:Hid (ds=DD lf xs):=Lib.hid (by rw [hds.out,Md])
   haveI:LenIs (Cg ds).l 16:=⟨CA _⟩
   repeat' (first|(apply tS ();refine Gx V rfl N.h Y X Y IK ?_;clear V;intro w V<;>apply nZ ()<;>(try replace V:=nH V))|(apply O ();go_step)|(apply kc ();refine sc (PV ds.length _ V (hG.mono hS1) _ ds hv (Nat.le_refl _) (by omega)) ?_;clear V;rintro v w ⟨rfl,V⟩)|fail)
   exact Ke rfl V rfl N.h Y Y ⟨_,rfl,by rw [hE.out],St.weaken hS1 V.drop⟩
abbrev Ev:=Dg×List Int×List Int×List Int×Int×Unit
abbrev Hd:=Dg×Dg×Int×Dg×Dg×Int×Unit
abbrev Rg:=Dg×Dg×Unit
def GD (h:Hd):List Value:=u8s h.1.l++(u8s h.2.1.l++([.int .i64 h.2.2.1]++(u8s h.2.2.2.1.l++(u8s h.2.2.2.2.1.l++([.int .i64 h.2.2.2.2.2.1]++[])))))
def FK (r:Rg):List Value:=u8s r.1.l++(u8s r.2.1.l++[])
instance gv:FlatC Hd GD:=⟨fun {S cs x} h=>(MB (α:=Dg) (β:=Dg×Int×Dg×Dg×Int×Unit)).flat h⟩
instance Lh:FlatC Rg FK:=⟨fun {S cs x} h=>(MB (α:=Dg) (β:=Dg×Unit)).flat h⟩
abbrev Wt (h:Hd):Value:=.agg (GD h).toArray
abbrev L4 (r:Rg):Value:=.agg (FK r).toArray
theorem BL {S} {d:Dg} (h:d.l.length=16):Z.R S (u8s d.l) d:=by exact ⟨h,LA d.l⟩
structure FN (h:Hd):Prop where
 a:h.1.l.length=16
 b:h.2.1.l.length=16
 c:Au h.2.2.1
 d:h.2.2.2.1.l.length=16
 e:h.2.2.2.2.1.l.length=16
 f:Au h.2.2.2.2.2.1
structure EP (r:Rg):Prop where
 a:r.1.l.length=16
 b:r.2.1.l.length=16
theorem Dw {S h} (k:FN h):Z.R S (GD h) h :=
 AG (BL k.a) (AG (BL k.b) (AG (cs:=[_]) ⟨rfl,k.c⟩ (AG (BL k.d) (AG (BL k.e) (AG (cs:=[_]) ⟨rfl,k.f⟩ CM)))))
theorem Dm {S r} (k:EP r):Z.R S (FK r) r:=AG (BL k.a) (AG (BL k.b) CM)
def SF:Dg:=⟨List.replicate 16 0⟩
def nB:Hd:=(SF,SF,0,SF,SF,0,())
def je:Rg:=(SF,SF,())
theorem gj:FN nB:=⟨rfl,rfl,by unfold Au;exact ⟨by decide,by decide⟩,rfl,rfl,by unfold Au;exact ⟨by decide,by decide⟩⟩
theorem KS:EP je:=⟨rfl,rfl⟩
theorem QO {S cs} {e:Ev} (h:Z.R S cs e):e.1.l.length=16∧Au e.2.2.2.2.1:=⟨h.2.1.1,h.2.2.2.2.2.2.2.2.2.1.2⟩
def Gu (m:Dg):Rg:=(⟨DO 7 [Bx 0,m.l]⟩,⟨DO 7 [Bx 1,m.l]⟩,())
theorem I2 (m):EP (Gu m):=⟨Cx _ _,Cx _ _⟩
def AE (e:Ev):Hd:=(e.1,⟨DO 11 [Lj e.2.1]⟩,(e.2.2.1.length:Int),Cg (DD BX e.2.2.1),Cg (DD Np e.2.2.2.1),e.2.2.2.2.1,())
def GW (r:Rg) (h:Hd):Rg:=(⟨DO 9 [r.1.l,h.1.l,Bx h.2.2.1,h.2.2.2.1.l,h.2.2.2.2.1.l,Bx h.2.2.2.2.2.1]⟩,⟨DO 9 [r.2.1.l,h.2.1.l]⟩,())
theorem Su (r h):EP (GW r h):=⟨Cx _ _,Cx _ _⟩
theorem GS {S M l x p} {d:Dg} (hx:Ai l x=p) (L:Pt S p d):∃ v,RSl S v d.l∧Qt prog l (.slice 23 x none none none) S M v:=by
 have h16:d.l.length=16:=by obtain ⟨b,o,c,T,fz,_,_,h⟩:=L;exact h.1
 obtain ⟨v,hv,hq⟩:=FA (P:=prog) (M:=M) (l:=l) (T:=23) (E:=5) (lo:=none) (hi:=none) (a:=0) (b:=16) hx L Y Y (.inl ⟨rfl,rfl⟩) (.inl ⟨rfl,rfl⟩) (by omega) (by omega) (by unfold maxLen;omega);rw [List.drop_zero,List.take_of_length_le (by omega)] at hv;exact ⟨v,hv,hq⟩
theorem Wr {S M} (w) (V:St S M w) (hG:Bu S) (cs ev) (hR:Z.R S cs ev) (h1:ev.2.1.length≤1000) (h2:ev.2.2.1.length≤1000) (h3:ev.2.2.2.1.length≤4000):
  Ac prog 39 [.agg cs.toArray] w fun v w'=>v=Wt (AE ev)∧St S M w':=by
 unfold Ac;obtain ⟨hs16,hf64⟩:=QO hR;have hok:FN (AE ev):=⟨hs16,Cx _ _,by unfold Au;show (-9223372036854775808:Int)≤(ev.2.2.1.length:Int)∧(ev.2.2.1.length:Int)≤9223372036854775807;omega,CA _,CA _,hf64⟩
 have hzl:(Lj ev.2.1).length≤10+10 * ev.2.1.length:=Zv _;go_enter func39,ntmps39;repeat' ((apply ZZ 1);first|(apply O ();go_step)|(apply sC ();clear V;intro bx w V)|(apply sZ ();clear V;intro bk w V)|fail)
 obtain ⟨S1,hS1,V,hpe⟩:=AC (α:=Ev) V.swap hR (Z.len hR);replace hG:=hG.mono hS1;refine AD V kr ?_;clear V;intro ops;apply nZ ();refine tx 0 rfl (As X hpe Y Y rfl) ?_;rintro vf hpf;refine tq 1 rfl (by exact BW X Ak Y Y rfl) ?_;refine tx 2 rfl (As X hpe Y Y rfl) ?_;rintro vf hpf;refine tx 3 rfl (Aj X Ak Y) ?_;rintro v3 ⟨hv3,hv31⟩;refine tx 7 rfl (As X hpe Y Y rfl) ?_;rintro vf hpf;refine tx 8 rfl (Aj X Ak Y) ?_;rintro v8 ⟨hv8,hv81⟩;refine td 9 rfl ?_;refine tx 10 rfl (As X hpe Y Y rfl) ?_;rintro vf hpf;refine tx 11 rfl (Aj X Ak Y) ?_;rintro v11 ⟨hv11,hv111⟩;refine tx 13 rfl (As X hpe Y Y rfl) ?_;rintro vf hpf;refine tx 14 rfl (Aj X Ak Y) ?_;rintro v14 ⟨hv14,hv141⟩;refine tx 16 rfl (As X hpe Y Y rfl) ?_;rintro vf hpf;refine tx 17 rfl (Am X Ak Y) ?_;rintro v ⟨rfl,hI⟩;refine AP 4 rfl kr ?_;intro w V K G;refine BG (WF w V _ ev.2.1 hv3 (by omega)) Y rfl ?_;clear V;rintro v4 w ⟨S4,hS4,hv4,hv41,V⟩;apply nZ ();(try replace V:=nH V);refine Bg G V hS4 (Suf.refl _) ?_;clear V G K;(try clear w);apply nZ ();refine AP 5 rfl kr ?_;intro w V K G;refine Eg V (.cons hv4 .nil) Y Y rfl rfl (by omega) ?_;clear V;intro S5 u5 w hS5 hu5 hu51 V;apply nZ ();(try replace V:=nH V);refine Bg G V hS5 (Suf.refl _) ?_;clear V G K;(try clear w);apply nZ ()
 (refine AQ 6 rfl kr rfl (fun S' M' w hS hM V=>Fa w V (((hG.mono hS4).mono hS5).mono hS) 11 (by omega) _ _ (hu5.mono hS) (Nat.le_trans (iu hzl) (by omega))) Y rfl ?_)<;>apply nZ ()
 (refine AQ 12 rfl kr rfl (fun S' M' w hS hM V=>R0 w V (((hG.mono hS4).mono hS5).mono hS) _ ev.2.2.1 (((hv11.mono hS4).mono hS5).mono hS) (by omega) _ BX Hu inferInstance (fun w V hG i t hi ht=>N9 w V hG i t hi ht)) Y rfl ?_)<;>apply nZ ()
 (refine AQ 15 rfl kr rfl (fun S' M' w hS hM V=>R0 w V (((hG.mono hS4).mono hS5).mono hS) _ ev.2.2.2.1 (((hv14.mono hS4).mono hS5).mono hS) (by omega) _ Np O1 inferInstance (fun w V hG i t hi ht=>bW w V hG i t hi ht)) Y rfl ?_)<;>apply nZ ()
 refine tq 18 rfl (Gh gv Y Y (Dw gj) (.cons (k:=0) (v:=Cu (AE ev).1) (y:=(AE ev).1) (BL hok.a) rfl (.cons (k:=1) (v:=Cu (AE ev).2.1) (y:=(AE ev).2.1) (BL hok.b) rfl (.cons (k:=2) (v:=.int .i64 (AE ev).2.2.1) (y:=(AE ev).2.2.1) ⟨rfl,hok.c⟩ rfl (.cons (k:=3) (v:=Cu (AE ev).2.2.2.1) (y:=(AE ev).2.2.2.1) (BL hok.d) rfl (.cons (k:=4) (v:=Cu (AE ev).2.2.2.2.1) (y:=(AE ev).2.2.2.2.1) (BL hok.e) rfl (.cons (k:=5) (v:=.int .i64 (AE ev).2.2.2.2.2.1) (y:=(AE ev).2.2.2.2.2.1) ⟨rfl,hok.f⟩ rfl .nil))))))) ?_;refine AP 19 rfl kr ?_;intro w V K G;refine Cf V rfl N.h Y (x0:=AE ev) (cs:=GD (AE ev)) X (Dw hok) rfl ?_;clear V;intro w V;apply nZ ();(try replace V:=nH V);refine Bb G V ?_;clear V G K;(try clear w);apply nZ ();refine AJ kr ?_;clear ops;intro w V;repeat' (first|(apply O ();go_step)|fail)
 exact Pq rfl V rfl N.h Y (Dw hok) ⟨_,rfl,rfl,St.weaken ((hS1.trans hS4).trans hS5) V.drop⟩
theorem PG {S M} (w) (V:St S M w) (hG:Bu S) (p) (m:Dg) (L:Pt S p m) (i) (hi:Au i):
  Ac prog 90 [.int .i64 i,p] w fun v w'=>v=.agg (u8s (DO 7 [Bx i,m.l])).toArray∧St S M w':=by
 unfold Ac
 haveI:LenIs (DO 7 [Bx i,m.l]) 16:=⟨Cx _ _⟩
 have hm16:m.l.length=16:=by obtain ⟨b,o,c,T,fz,_,_,h⟩:=L;exact h.1
 have hpo:=L;obtain ⟨b0,o0,c0,T0,fz0,rfl,_,_⟩:=hpo;go_enter func90,ntmps90;repeat' (first|(apply O ();go_step)|(apply sZ ();clear V;intro bk w V)|fail)
 refine AD V kr ?_;clear V;intro ops;apply nZ ();refine td 0 rfl ?_;refine tx 2 rfl (GS X L) ?_;rintro v2 hv2;refine AP 1 rfl kr ?_;intro w V K G;refine BG (Ha w V i hi) Y rfl ?_;clear V;rintro v1 w ⟨S1,hS1,hv1,hv11,V⟩;replace hv2:=hv2.mono hS1;apply nZ ();(try replace V:=nH V);refine Bg G V hS1 (Suf.refl _) ?_;clear V G K;(try clear w);apply nZ ();refine AP 3 rfl kr ?_;intro w V K G;refine Eg V (.cons hv1 (.cons hv2 .nil)) Y Y rfl rfl (by omega) ?_;clear V;intro S3 u3 w hS3 hu3 hu31 V;apply nZ ();(try replace V:=nH V);refine Bg G V hS3 (Suf.refl _) ?_;clear V G K;(try clear w);apply nZ ();(refine AQ 4 rfl kr rfl (fun S' M' w hS hM V=>Fa w V (((hG.mono hS1).mono hS3).mono hS) 7 (by omega) _ _ (hu3.mono hS) (Nat.le_trans (Tn (Dq i) (Nat.le_of_eq hm16)) (by omega))) Y rfl ?_)<;>apply nZ ()
 refine AP 5 rfl kr ?_;intro w V K G;(refine Gx V rfl N.h Y X Y IK ?_);clear V;intro w V;apply nZ ();(try replace V:=nH V);refine Bb G V ?_;clear V G K;(try clear w);apply nZ ();refine AJ kr ?_;clear ops;intro w V;repeat' (first|(apply O ();go_step)|fail)
 exact Ke rfl V rfl N.h Y Y ⟨_,rfl,rfl,St.weaken (hS1.trans hS3) V.drop⟩
theorem RU {S M} (w) (V:St S M w) (hG:Bu S) (m) (hm:m.l.length=16):
  Ac prog 50 [Cu m] w fun v w'=>v=L4 (Gu m)∧St S M w':=by
 unfold Ac;have c0:=fun {S:Ad} {M:List J} (w:World) (V:St S M w) (hG:Bu S) (p:Value) (L:Pt S p m)=>PG w V hG p m L 0 (by unfold Au;omega)
 have c1:=fun {S:Ad} {M:List J} (w:World) (V:St S M w) (hG:Bu S) (p:Value) (L:Pt S p m)=>PG w V hG p m L 1 (by unfold Au;omega)
 have hX:Hid (Gu m=(⟨DO 7 [Bx 0,m.l]⟩,⟨DO 7 [Bx 1,m.l]⟩,())):=Lib.hid rfl;have l0:(DO 7 [Bx 0,m.l]).length=16:=Cx _ _;have l1:(DO 7 [Bx 1,m.l]).length=16:=Cx _ _;generalize DO 7 [Bx 0,m.l]=D0 at *;generalize DO 7 [Bx 1,m.l]=D1 at *;have hok:EP (⟨D0⟩,⟨D1⟩,()):=⟨l0,l1⟩
 go_enter func50,ntmps50;repeat' ((apply ZZ 1);first|(apply O ();go_step)|(apply sC ();clear V;intro bx w V)|(apply sZ ();clear V;intro bk w V)|fail)
 obtain ⟨S1,hS1,V,L⟩:=AC (α:=Dg) V.swap (BL hm) (by rw [Bh];exact hm);replace hG:=hG.mono hS1;have hrk:Z.R S1 (FK (⟨D0⟩,⟨D1⟩,())) ((⟨D0⟩,⟨D1⟩,()):Rg):=Dm hok;repeat' (first|(apply tU ();with_unfolding_all refine Ag V (Gh Lh Y Y (Dm KS) (.cons (k:=0) (v:=Cu ⟨D0⟩) (y:=(⟨D0⟩:Dg)) (BL l0) rfl (.cons (k:=1) (v:=Cu ⟨D1⟩) (y:=(⟨D1⟩:Dg)) (BL l1) rfl .nil))) ?_<;>apply nZ ())|(apply O ();go_step)|(apply kc ();refine Eh (c0 _ V hG _ L) rfl Y rfl rfl ?_;clear V;rintro v w ⟨rfl,V⟩<;>apply nZ ()<;>(try replace V:=nH V))|(apply kc ();refine Eh (c1 _ V hG _ L) rfl Y rfl rfl ?_;clear V;rintro v w ⟨rfl,V⟩<;>apply nZ ()<;>(try replace V:=nH V))|fail)
 refine Cf V rfl N.h Y (x0:=((⟨D0⟩,⟨D1⟩,()):Rg)) (cs:=FK (⟨D0⟩,⟨D1⟩,())) X (Dm hok) rfl ?_;clear V;intro w V;apply nZ ();(try replace V:=nH V);repeat' (first|(apply O ();go_step)|fail)
 exact Pq rfl V rfl N.h Y (Dm hok) ⟨_,rfl,by rw [hX.out],St.weaken hS1 V.drop⟩
theorem QF {S M} (w) (V:St S M w) (hG:Bu S) (r) (hr:EP r) (h) (hh:FN h):
  Ac prog 52 [L4 r,Wt h] w fun v w'=>v=L4 (GW r h)∧St S M w':=by
 unfold Ac;have hX:Hid (GW r h=(⟨DO 9 [r.1.l,h.1.l,Bx h.2.2.1,h.2.2.2.1.l,h.2.2.2.2.1.l,Bx h.2.2.2.2.2.1]⟩,⟨DO 9 [r.2.1.l,h.2.1.l]⟩,())):=Lib.hid rfl;have hl1:=hr.a;have hl2:=hr.b;have hl3:=hh.a;have hl4:=hh.b;have hl5:=hh.d;have hl6:=hh.e;have hi1:=hh.c;have hi2:=hh.f;have he1:=Dq h.2.2.1;have he2:=Dq h.2.2.2.2.2.1;have cA:=fun {S:Ad} {M:List J} (w:World) (V:St S M w) (hG:Bu S) (vp:Value) (L:RSl S vp [r.1.l,h.1.l,Bx h.2.2.1,h.2.2.2.1.l,h.2.2.2.2.1.l,Bx h.2.2.2.2.2.1])=>Fa w V hG 9 (by omega) vp _ L (by simp [CT];omega)
 have cB:=fun {S:Ad} {M:List J} (w:World) (V:St S M w) (hG:Bu S) (vp:Value) (L:RSl S vp [r.2.1.l,h.2.1.l])=>Fa w V hG 9 (by omega) vp _ L (by simp [CT];omega)
 have l0:(DO 9 [r.1.l,h.1.l,Bx h.2.2.1,h.2.2.2.1.l,h.2.2.2.2.1.l,Bx h.2.2.2.2.2.1]).length=16:=Cx _ _;have l1:(DO 9 [r.2.1.l,h.2.1.l]).length=16:=Cx _ _;generalize DO 9 [r.1.l,h.1.l,Bx h.2.2.1,h.2.2.2.1.l,h.2.2.2.2.1.l,Bx h.2.2.2.2.2.1]=D0 at *;generalize DO 9 [r.2.1.l,h.2.1.l]=D1 at *;have hx:EP (⟨D0⟩,⟨D1⟩,()):=⟨l0,l1⟩
 go_enter func52,ntmps52;repeat' ((apply ZZ 1);first|(apply O ();go_step)|(apply sC ();clear V;intro bx w V)|(apply sZ ();clear V;intro bk w V)|fail)
 obtain ⟨S1,hS1,V,hph⟩:=AC (α:=Hd) (V.perm (List.Perm.swap _ _ _)) (Dw hh) (Z.len (S:=S) (Dw hh));obtain ⟨S2,hS2,V,hpr⟩:=AC (α:=Rg) V.swap (Dm hr) (Z.len (S:=S) (Dm hr));replace hph:=hph.mono hS2;replace hG:=(hG.mono hS1).mono hS2;have hle:=Ad.Le.refl S2;refine AD V kr ?_;clear V;intro ops;apply nZ ();refine tx 0 rfl (As X hpr Y Y rfl) ?_;rintro vf hpf;refine tx 1 rfl (GS X Ak) ?_;rintro v1 hv1;refine tx 2 rfl (As X hph Y Y rfl) ?_;rintro vf hpf;refine tx 3 rfl (GS X Ak) ?_;rintro v3 hv3;refine tx 4 rfl (As X hph Y Y rfl) ?_;rintro vf hpf;refine tx 5 rfl (Am X Ak Y) ?_;rintro v ⟨rfl,hI⟩;refine tx 7 rfl (As X hph Y Y rfl) ?_;rintro vf hpf;refine tx 8 rfl (GS X Ak) ?_;rintro v8 hv8;refine tx 9 rfl (As X hph Y Y rfl) ?_;rintro vf hpf;refine tx 10 rfl (GS X Ak) ?_;rintro v10 hv10;refine tx 11 rfl (As X hph Y Y rfl) ?_;rintro vf hpf;refine tx 12 rfl (Am X Ak Y) ?_;rintro v ⟨rfl,hI⟩;refine tx 16 rfl (As X hpr Y Y rfl) ?_;rintro vf hpf;refine tx 17 rfl (GS X Ak) ?_;rintro v17 hv17;refine tx 18 rfl (As X hph Y Y rfl) ?_;rintro vf hpf;refine tx 19 rfl (GS X Ak) ?_;rintro v19 hv19;refine Lv 6 20 rfl rfl kr ?_ ?_
 intro w V K G;refine BG (Ha w V _ hi1) Y rfl ?_;clear V;rintro v6 w ⟨S6,hS6,hv6,hv61,V⟩;replace hG:=hG.mono hS6;replace hle:=hle.trans hS6;replace hv1:=hv1.mono hS6;replace hv3:=hv3.mono hS6;replace hv8:=hv8.mono hS6;replace hv10:=hv10.mono hS6;(try replace hv17:=hv17.mono hS6);(try replace hv19:=hv19.mono hS6);(try replace hv20:=hv20.mono hS6);apply nZ ();(try replace V:=nH V);refine Bg G V hS6 (Suf.refl _) ?_;clear V G K;(try clear w);apply nZ ();refine Lv 13 20 rfl rfl kr ?_ ?_;intro w V K G;refine BG (Ha w V _ hi2) Y rfl ?_;clear V;rintro v13 w ⟨S13,hS13,hv13,hv131,V⟩;replace hG:=hG.mono hS13;replace hle:=hle.trans hS13;replace hv1:=hv1.mono hS13;replace hv3:=hv3.mono hS13;replace hv8:=hv8.mono hS13;replace hv10:=hv10.mono hS13;(try replace hv6:=hv6.mono hS13);(try replace hv17:=hv17.mono hS13);(try replace hv19:=hv19.mono hS13);(try replace hv20:=hv20.mono hS13);apply nZ ();(try replace V:=nH V);refine Bg G V hS13 (Suf.refl _) ?_;clear V G K;(try clear w);apply nZ ();refine Lv 14 20 rfl rfl kr ?_ ?_
 intro w V K G;refine Eg V (.cons hv1 (.cons hv3 (.cons hv6 (.cons hv8 (.cons hv10 (.cons hv13 .nil)))))) Y Y rfl rfl (by omega) ?_;clear V;intro S14 v14 w hS14 hv14 hv141 V;replace hG:=hG.mono hS14;replace hle:=hle.trans hS14;replace hv1:=hv1.mono hS14;replace hv3:=hv3.mono hS14;replace hv8:=hv8.mono hS14;replace hv10:=hv10.mono hS14;(try replace hv17:=hv17.mono hS14);(try replace hv19:=hv19.mono hS14);(try replace hv20:=hv20.mono hS14);apply nZ ();(try replace V:=nH V);refine Bg G V hS14 (Suf.refl _) ?_;clear V G K;(try clear w);apply nZ ();(refine AQ 15 rfl kr rfl (fun S' M' w hS hM V=>cA w V (hG.mono hS) _ (hv14.mono hS)) Y rfl ?_)<;>apply nZ ()
 refine AP 20 rfl kr ?_;intro w V K G;refine Eg V (.cons hv17 (.cons hv19 .nil)) Y Y rfl rfl (by omega) ?_;clear V;intro S20 v20 w hS20 hv20 hv201 V;replace hG:=hG.mono hS20;replace hle:=hle.trans hS20;replace hv1:=hv1.mono hS20;replace hv3:=hv3.mono hS20;replace hv8:=hv8.mono hS20;replace hv10:=hv10.mono hS20;(try replace hv6:=hv6.mono hS20);(try replace hv13:=hv13.mono hS20);(try replace hv14:=hv14.mono hS20);apply nZ ();(try replace V:=nH V);refine Bg G V hS20 (Suf.refl _) ?_;clear V G K;(try clear w);apply nZ ();(refine AQ 21 rfl kr rfl (fun S' M' w hS hM V=>cB w V (hG.mono hS) _ (hv20.mono hS)) Y rfl ?_)<;>apply nZ ()
 refine tq 22 rfl (Gh Lh Y Y (Dm KS) (.cons (k:=0) (v:=Cu ⟨D0⟩) (y:=(⟨D0⟩:Dg)) (BL l0) rfl (.cons (k:=1) (v:=Cu ⟨D1⟩) (y:=(⟨D1⟩:Dg)) (BL l1) rfl .nil))) ?_;refine AP 23 rfl kr ?_;intro w V K G;refine Cf V rfl N.h Y (x0:=((⟨D0⟩,⟨D1⟩,()):Rg)) (cs:=FK (⟨D0⟩,⟨D1⟩,())) X (Dm hx) rfl ?_;clear V;intro w V;apply nZ ();(try replace V:=nH V);refine Bb G V ?_;clear V G K;(try clear w);apply nZ ();refine AJ kr ?_;clear ops;intro w V;rotate_left;intro w V K G;refine Eg V (.cons hv17 (.cons hv19 .nil)) Y Y rfl rfl (by omega) ?_;clear V;intro S20 v20 w hS20 hv20 hv201 V;replace hG:=hG.mono hS20;replace hle:=hle.trans hS20;replace hv1:=hv1.mono hS20;replace hv3:=hv3.mono hS20;replace hv8:=hv8.mono hS20;replace hv10:=hv10.mono hS20;(try replace hv6:=hv6.mono hS20);(try replace hv13:=hv13.mono hS20);(try replace hv14:=hv14.mono hS20);apply nZ ();(try replace V:=nH V);refine Bg G V hS20 (Suf.refl _) ?_;clear V G K;(try clear w);apply nZ ()
 refine AP 14 rfl kr ?_;intro w V K G;refine Eg V (.cons hv1 (.cons hv3 (.cons hv6 (.cons hv8 (.cons hv10 (.cons hv13 .nil)))))) Y Y rfl rfl (by omega) ?_;clear V;intro S14 v14 w hS14 hv14 hv141 V;replace hG:=hG.mono hS14;replace hle:=hle.trans hS14;replace hv1:=hv1.mono hS14;replace hv3:=hv3.mono hS14;replace hv8:=hv8.mono hS14;replace hv10:=hv10.mono hS14;(try replace hv17:=hv17.mono hS14);(try replace hv19:=hv19.mono hS14);(try replace hv20:=hv20.mono hS14);apply nZ ();(try replace V:=nH V);refine Bg G V hS14 (Suf.refl _) ?_;clear V G K;(try clear w);apply nZ ();(refine AQ 15 rfl kr rfl (fun S' M' w hS hM V=>cA w V (hG.mono hS) _ (hv14.mono hS)) Y rfl ?_)<;>apply nZ ()
 (refine AQ 21 rfl kr rfl (fun S' M' w hS hM V=>cB w V (hG.mono hS) _ (hv20.mono hS)) Y rfl ?_)<;>apply nZ ()
 refine tq 22 rfl (Gh Lh Y Y (Dm KS) (.cons (k:=0) (v:=Cu ⟨D0⟩) (y:=(⟨D0⟩:Dg)) (BL l0) rfl (.cons (k:=1) (v:=Cu ⟨D1⟩) (y:=(⟨D1⟩:Dg)) (BL l1) rfl .nil))) ?_;refine AP 23 rfl kr ?_;intro w V K G;refine Cf V rfl N.h Y (x0:=((⟨D0⟩,⟨D1⟩,()):Rg)) (cs:=FK (⟨D0⟩,⟨D1⟩,())) X (Dm hx) rfl ?_;clear V;intro w V;apply nZ ();(try replace V:=nH V);refine Bb G V ?_;clear V G K;(try clear w);apply nZ ();refine AJ kr ?_;clear ops;intro w V;rotate_left;intro w V K G;refine Eg V (.cons hv17 (.cons hv19 .nil)) Y Y rfl rfl (by omega) ?_;clear V;intro S20 v20 w hS20 hv20 hv201 V;replace hG:=hG.mono hS20;replace hle:=hle.trans hS20;replace hv1:=hv1.mono hS20;replace hv3:=hv3.mono hS20;replace hv8:=hv8.mono hS20;replace hv10:=hv10.mono hS20;(try replace hv6:=hv6.mono hS20);(try replace hv13:=hv13.mono hS20);(try replace hv14:=hv14.mono hS20);apply nZ ();(try replace V:=nH V);refine Bg G V hS20 (Suf.refl _) ?_;clear V G K;(try clear w);apply nZ ()
 refine AP 13 rfl kr ?_;intro w V K G;refine BG (Ha w V _ hi2) Y rfl ?_;clear V;rintro v13 w ⟨S13,hS13,hv13,hv131,V⟩;replace hG:=hG.mono hS13;replace hle:=hle.trans hS13;replace hv1:=hv1.mono hS13;replace hv3:=hv3.mono hS13;replace hv8:=hv8.mono hS13;replace hv10:=hv10.mono hS13;(try replace hv6:=hv6.mono hS13);(try replace hv17:=hv17.mono hS13);(try replace hv19:=hv19.mono hS13);(try replace hv20:=hv20.mono hS13);apply nZ ();(try replace V:=nH V);refine Bg G V hS13 (Suf.refl _) ?_;clear V G K;(try clear w);apply nZ ();refine AP 14 rfl kr ?_;intro w V K G;refine Eg V (.cons hv1 (.cons hv3 (.cons hv6 (.cons hv8 (.cons hv10 (.cons hv13 .nil)))))) Y Y rfl rfl (by omega) ?_;clear V;intro S14 v14 w hS14 hv14 hv141 V;replace hG:=hG.mono hS14;replace hle:=hle.trans hS14;replace hv1:=hv1.mono hS14;replace hv3:=hv3.mono hS14;replace hv8:=hv8.mono hS14;replace hv10:=hv10.mono hS14;(try replace hv17:=hv17.mono hS14);(try replace hv19:=hv19.mono hS14);(try replace hv20:=hv20.mono hS14);apply nZ ();(try replace V:=nH V);refine Bg G V hS14 (Suf.refl _) ?_;clear V G K;(try clear w);apply nZ ();(refine AQ 15 rfl kr rfl (fun S' M' w hS hM V=>cA w V (hG.mono hS) _ (hv14.mono hS)) Y rfl ?_)<;>apply nZ ()
 (refine AQ 21 rfl kr rfl (fun S' M' w hS hM V=>cB w V (hG.mono hS) _ (hv20.mono hS)) Y rfl ?_)<;>apply nZ ()
 refine tq 22 rfl (Gh Lh Y Y (Dm KS) (.cons (k:=0) (v:=Cu ⟨D0⟩) (y:=(⟨D0⟩:Dg)) (BL l0) rfl (.cons (k:=1) (v:=Cu ⟨D1⟩) (y:=(⟨D1⟩:Dg)) (BL l1) rfl .nil))) ?_;refine AP 23 rfl kr ?_;intro w V K G;refine Cf V rfl N.h Y (x0:=((⟨D0⟩,⟨D1⟩,()):Rg)) (cs:=FK (⟨D0⟩,⟨D1⟩,())) X (Dm hx) rfl ?_;clear V;intro w V;apply nZ ();(try replace V:=nH V);refine Bb G V ?_;clear V G K;(try clear w);apply nZ ();refine AJ kr ?_;clear ops;intro w V;rotate_left;intro w V K G;refine Eg V (.cons hv17 (.cons hv19 .nil)) Y Y rfl rfl (by omega) ?_;clear V;intro S20 v20 w hS20 hv20 hv201 V;replace hG:=hG.mono hS20;replace hle:=hle.trans hS20;replace hv1:=hv1.mono hS20;replace hv3:=hv3.mono hS20;replace hv8:=hv8.mono hS20;replace hv10:=hv10.mono hS20;(try replace hv6:=hv6.mono hS20);(try replace hv13:=hv13.mono hS20);(try replace hv14:=hv14.mono hS20);apply nZ ();(try replace V:=nH V);refine Bg G V hS20 (Suf.refl _) ?_;clear V G K;(try clear w);apply nZ ()
 refine AP 6 rfl kr ?_;intro w V K G;refine BG (Ha w V _ hi1) Y rfl ?_;clear V;rintro v6 w ⟨S6,hS6,hv6,hv61,V⟩;replace hG:=hG.mono hS6;replace hle:=hle.trans hS6;replace hv1:=hv1.mono hS6;replace hv3:=hv3.mono hS6;replace hv8:=hv8.mono hS6;replace hv10:=hv10.mono hS6;(try replace hv17:=hv17.mono hS6);(try replace hv19:=hv19.mono hS6);(try replace hv20:=hv20.mono hS6);apply nZ ();(try replace V:=nH V);refine Bg G V hS6 (Suf.refl _) ?_;clear V G K;(try clear w);apply nZ ();refine AP 13 rfl kr ?_;intro w V K G;refine BG (Ha w V _ hi2) Y rfl ?_;clear V;rintro v13 w ⟨S13,hS13,hv13,hv131,V⟩;replace hG:=hG.mono hS13;replace hle:=hle.trans hS13;replace hv1:=hv1.mono hS13;replace hv3:=hv3.mono hS13;replace hv8:=hv8.mono hS13;replace hv10:=hv10.mono hS13;(try replace hv6:=hv6.mono hS13);(try replace hv17:=hv17.mono hS13);(try replace hv19:=hv19.mono hS13);(try replace hv20:=hv20.mono hS13);apply nZ ();(try replace V:=nH V);refine Bg G V hS13 (Suf.refl _) ?_;clear V G K;(try clear w);apply nZ ()
 refine AP 14 rfl kr ?_;intro w V K G;refine Eg V (.cons hv1 (.cons hv3 (.cons hv6 (.cons hv8 (.cons hv10 (.cons hv13 .nil)))))) Y Y rfl rfl (by omega) ?_;clear V;intro S14 v14 w hS14 hv14 hv141 V;replace hG:=hG.mono hS14;replace hle:=hle.trans hS14;replace hv1:=hv1.mono hS14;replace hv3:=hv3.mono hS14;replace hv8:=hv8.mono hS14;replace hv10:=hv10.mono hS14;(try replace hv17:=hv17.mono hS14);(try replace hv19:=hv19.mono hS14);(try replace hv20:=hv20.mono hS14);apply nZ ();(try replace V:=nH V);refine Bg G V hS14 (Suf.refl _) ?_;clear V G K;(try clear w);apply nZ ();(refine AQ 15 rfl kr rfl (fun S' M' w hS hM V=>cA w V (hG.mono hS) _ (hv14.mono hS)) Y rfl ?_)<;>apply nZ ()
 (refine AQ 21 rfl kr rfl (fun S' M' w hS hM V=>cB w V (hG.mono hS) _ (hv20.mono hS)) Y rfl ?_)<;>apply nZ ()
 refine tq 22 rfl (Gh Lh Y Y (Dm KS) (.cons (k:=0) (v:=Cu ⟨D0⟩) (y:=(⟨D0⟩:Dg)) (BL l0) rfl (.cons (k:=1) (v:=Cu ⟨D1⟩) (y:=(⟨D1⟩:Dg)) (BL l1) rfl .nil))) ?_;refine AP 23 rfl kr ?_;intro w V K G;refine Cf V rfl N.h Y (x0:=((⟨D0⟩,⟨D1⟩,()):Rg)) (cs:=FK (⟨D0⟩,⟨D1⟩,())) X (Dm hx) rfl ?_;clear V;intro w V;apply nZ ();(try replace V:=nH V);refine Bb G V ?_;clear V G K;(try clear w);apply nZ ();refine AJ kr ?_;clear ops;intro w V;rotate_left
 all_goals
  repeat' (first|(apply O ();go_step)|fail)
  exact Pq rfl V rfl N.h Y (Dm hx) ⟨_,rfl,by rw [hX.out],St.weaken ((hS1.trans hS2).trans hle) V.drop⟩
end Go.Proofs.YtmmbidoldegemaaGreatDoor
