/- Part 31 of the proof that the law of the last part holds; no conditions. -/
import Derived.Test.YtmmbidoldegemaaGreatDoorZ02
set_option linter.unusedSimpArgs false
set_option linter.unusedVariables false
set_option maxRecDepth 8000
set_option maxHeartbeats 8000000
namespace Go.Srt
structure Ord {α:Type} (cf:α→α→Int):Prop where
 tr:∀ {x y z},¬ cf y x < 0→¬ cf z y < 0→¬ cf z x < 0
 asy:∀ {x y},cf x y < 0→¬ cf y x < 0
section
variable {α:Type} {cf:α→α→Int} {d:α}
abbrev le (cf:α→α→Int) (x y:α):Prop:=¬ cf y x < 0
def Bc (cf:α→α→Int) (d:α) (xs:List α) (a b:Nat):Prop:=∀ i j,a≤i→i < j→j < b→le cf (xs.getD i d) (xs.getD j d)
structure Cp (d:α) (a b:Nat) (xs ys:List α):Prop where
 perm:ys.Perm xs
 out:∀ t,¬ (a≤t∧t < b)→ys.getD t d=xs.getD t d
 mem:∀ t,a≤t→t < b→∃ t',a≤t'∧t' < b∧ys.getD t d=xs.getD t' d
theorem Cp.len {a b:Nat} {xs ys:List α} (h:Cp d a b xs ys):ys.length=xs.length:=h.perm.length_eq
theorem Cp.refl (a b:Nat) (xs:List α):Cp d a b xs xs:=⟨.refl _,fun _ _=>rfl,fun t h1 h2=>⟨t,h1,h2,rfl⟩⟩
theorem Cp.trans {a b:Nat} {xs ys zs:List α} (h:Cp d a b xs ys) (g:Cp d a b ys zs):Cp d a b xs zs :=
 ⟨g.perm.trans h.perm,fun t ht=>(g.out t ht).trans (h.out t ht),fun t h1 h2=>by
  obtain ⟨t1,a1,b1,e1⟩:=g.mem t h1 h2;obtain ⟨t2,a2,b2,e2⟩:=h.mem t1 a1 b1;exact ⟨t2,a2,b2,e1.trans e2⟩⟩
theorem Cp.wide {a b a' b':Nat} {xs ys:List α} (h:Cp d a b xs ys) (ha:a'≤a) (hb:b≤b'):Cp d a' b' xs ys :=
 ⟨h.perm,fun t ht=>h.out t fun k=>ht ⟨by omega,by omega⟩,fun t h1 h2=>by
  by_cases k:a≤t∧t < b
  ·obtain ⟨t',a1,b1,e⟩:=h.mem t k.1 k.2;exact ⟨t',by omega,by omega,e⟩
  ·exact ⟨t,h1,h2,h.out t k⟩⟩
theorem DC {xs:List α} {i:Nat} (h:i < xs.length):xs.getD i d=xs[i]:=by
 rw [List.getD_eq_getElem?_getD,List.getElem?_eq_getElem h,Option.getD_some]
def swap (d:α) (xs:List α) (i j:Nat):List α:=(xs.set i (xs.getD j d)).set j (xs.getD i d)
theorem Wt (xs:List α) (i j:Nat):(swap d xs i j).length=xs.length:=by simp [swap]
theorem FG {xs:List α} {i j:Nat} (hi:i < xs.length) (hj:j < xs.length) (t:Nat):(swap d xs i j).getD t d=if t=j then xs.getD i d else if t=i then xs.getD j d else xs.getD t d:=by
 unfold swap;rw [List.getD_eq_getElem?_getD,List.getElem?_set,List.length_set];by_cases h1:j=t
 ·subst h1;rw [if_pos rfl,if_pos hj,if_pos rfl,Option.getD_some]
 ·rw [if_neg h1,if_neg (fun e=>h1 e.symm),List.getElem?_set];by_cases h2:i=t
  ·subst h2;rw [if_pos rfl,if_pos hi,if_pos rfl,Option.getD_some]
  ·rw [if_neg h2,if_neg (fun e=>h2 e.symm),← List.getD_eq_getElem?_getD]
theorem J2 {xs:List α} {i j:Nat} (hi:i < xs.length) (hj:j < xs.length):(swap d xs i j).Perm xs:=by
 unfold swap;rw [DC hi,DC hj];exact List.set_set_perm hi hj
theorem Ws {xs:List α} {i j a b:Nat} (hi:i < xs.length) (hj:j < xs.length) (h1:a≤i∧i < b) (h2:a≤j∧j < b):Cp d a b xs (swap d xs i j) :=
 ⟨J2 hi hj,fun t ht=>by rw [FG hi hj,if_neg (by omega),if_neg (by omega)],fun t k1 k2=>by
  rw [FG hi hj];split
  ·exact ⟨i,h1.1,h1.2,rfl⟩
  ·split
   ·exact ⟨j,h2.1,h2.2,rfl⟩
   ·exact ⟨t,k1,k2,rfl⟩⟩
def RQ (cf:α→α→Int) (d:α) (xs:List α) (a j b:Nat):Prop:=∀ p q,a≤p→p < q→q < b→q≠j→le cf (xs.getD p d) (xs.getD q d)
theorem Vc {xs:List α} {a i:Nat} (h:Bc cf d xs a i):RQ cf d xs a i (i+1):=fun p q h1 h2 h3 h4=>h p q h1 h2 (by omega)
theorem XU (O:Ord cf) {xs:List α} {a j b:Nat} (h:RQ cf d xs a j b) (hj:a < j) (hjb:j < b) (hb:b≤xs.length) (hlt:cf (xs.getD j d) (xs.getD (j - 1) d) < 0):RQ cf d (swap d xs j (j - 1)) a (j - 1) b:=by
 intro p q h1 h2 h3 h4;rw [FG (by omega) (by omega),FG (by omega) (by omega)];by_cases c1:q=j
 ·subst c1;rw [if_neg h4,if_pos rfl];by_cases c2:p=q - 1
  ·rw [if_pos c2];exact O.asy hlt
  ·rw [if_neg c2,if_neg (by omega)];exact h p (q - 1) h1 (by omega) (by omega) (by omega)
 ·rw [if_neg h4,if_neg c1];by_cases c2:p=j - 1
  ·rw [if_pos c2];exact h j q (by omega) (by omega) h3 c1
  ·rw [if_neg c2];by_cases c3:p=j
   ·rw [if_pos c3];exact h (j - 1) q (by omega) (by omega) h3 c1
   ·rw [if_neg c3];exact h p q h1 h2 h3 c1
theorem Vb {xs:List α} {a b:Nat} (h:RQ cf d xs a a b):Bc cf d xs a b:=fun p q h1 h2 h3=>h p q h1 h2 h3 (by omega)
theorem ak (O:Ord cf) {xs:List α} {a j b:Nat} (h:RQ cf d xs a j b) (hj:a < j) (hn:¬ cf (xs.getD j d) (xs.getD (j - 1) d) < 0):Bc cf d xs a b:=by
 intro p q h1 h2 h3;by_cases c:q=j
 ·subst c;by_cases c2:p=q - 1
  ·subst c2;exact hn
  ·exact O.tr (h p (q - 1) h1 (by omega) (by omega) (by omega)) hn
 ·exact h p q h1 h2 h3 c
theorem WC {xs:List α} {a b:Nat} (h:b≤a+1):Bc cf d xs a b:=fun i j h1 h2 h3=>by omega
theorem WB {xs:List α} {a b a' b':Nat} (h:Bc cf d xs a b) (h1:a≤a') (h2:b'≤b):Bc cf d xs a' b':=fun i j k1 k2 k3=>h i j (by omega) k2 (by omega)
theorem Jl {xs ys:List α} {a b a' b':Nat} (h:Bc cf d xs a b) (g:Cp d a' b' xs ys) (ho:b≤a'∨b'≤a):Bc cf d ys a b:=fun i j h1 h2 h3=>by
 rw [g.out i (by omega),g.out j (by omega)];exact h i j h1 h2 h3
def II (d:α) (xs ys:List α) (a b n:Nat):Prop:=ys.Perm xs∧∀ t,ys.getD t d=if a≤t∧t < a+n then xs.getD (t - a+b) d else if b≤t∧t < b+n then xs.getD (t - b+a) d else xs.getD t d
theorem Wu (xs:List α) (a b:Nat):II d xs xs a b 0:=⟨.refl _,fun t=>by rw [if_neg (by omega),if_neg (by omega)]⟩
theorem Wv {xs ys:List α} {a b n:Nat} (h:II d xs ys a b n) (hab:a+n < b) (hb:b+n < xs.length):II d xs (swap d ys (a+n) (b+n)) a b (n+1):=by
 have hl:ys.length=xs.length:=h.1.length_eq;refine ⟨(J2 (by omega) (by omega)).trans h.1,fun t=>?_⟩;rw [FG (by omega) (by omega),h.2,h.2,h.2];by_cases c1:t=b+n
 ·rw [if_pos c1,if_neg (show ¬ (a≤a+n∧a+n < a+n) by omega),if_neg (show ¬ (b≤a+n∧a+n < b+n) by omega),if_neg (show ¬ (a≤t∧t < a+(n+1)) by omega),if_pos (show b≤t∧t < b+(n+1) by omega)]
  congr 1;omega
 ·rw [if_neg c1];by_cases c2:t=a+n
  ·rw [if_pos c2,if_neg (show ¬ (a≤b+n∧b+n < a+n) by omega),if_neg (show ¬ (b≤b+n∧b+n < b+n) by omega),if_pos (show a≤t∧t < a+(n+1) by omega)]
   congr 1;omega
  ·rw [if_neg c2];by_cases c3:a≤t∧t < a+n
   ·rw [if_pos c3,if_pos (show a≤t∧t < a+(n+1) by omega)]
   ·rw [if_neg c3,if_neg (show ¬ (a≤t∧t < a+(n+1)) by omega)];by_cases c4:b≤t∧t < b+n
    ·rw [if_pos c4,if_pos (show b≤t∧t < b+(n+1) by omega)]
    ·rw [if_neg c4,if_neg (show ¬ (b≤t∧t < b+(n+1)) by omega)]
def FB (f:Nat→α) (a m b t:Nat):α:=if a≤t∧t < a+(b - m) then f (t+(m - a)) else if a+(b - m)≤t∧t < b then f (t - (b - m)) else f t
def Gd (d:α) (xs ys:List α) (a m b:Nat):Prop:=ys.Perm xs∧∀ t,ys.getD t d=FB (xs.getD · d) a m b t
def LV (d:α) (xs ys:List α) (a m b i j:Nat):Prop:=ys.Perm xs∧∀ t,FB (xs.getD · d) a m b t=FB (ys.getD · d) (m - i) m (m+j) t
theorem Sf (xs:List α) {a m b:Nat} (h1:a≤m) (h2:m≤b):LV d xs xs a m b (m - a) (b - m):=⟨.refl _,fun t=>by
 rw [show m - (m - a)=a by omega,show m+(b - m)=b by omega]⟩
theorem Zt {xs ys zs:List α} {a m b i j:Nat} (h:LV d xs ys a m b i j) (hs:II d ys zs (m - i) m j) (hij:j < i) (hi:i≤m):LV d xs zs a m b (i - j) j:=by
 refine ⟨hs.1.trans h.1,fun t=>?_⟩;rw [h.2];simp only [FB,hs.2]
 repeat' split
 all_goals first
  | (exfalso;omega)
  | (congr 1<;>omega)
theorem Zs {xs ys zs:List α} {a m b i j:Nat} (h:LV d xs ys a m b i j) (hs:II d ys zs (m - i) (m+j - i) i) (hij:i < j) (hi:i≤m):LV d xs zs a m b i (j - i):=by
 refine ⟨hs.1.trans h.1,fun t=>?_⟩;rw [h.2];simp only [FB,hs.2]
 repeat' split
 all_goals first
  | (exfalso;omega)
  | (congr 1<;>omega)
theorem W0 {xs ys zs:List α} {a m b i:Nat} (h:LV d xs ys a m b i i) (hs:II d ys zs (m - i) m i) (hi:i≤m):Gd d xs zs a m b:=by
 refine ⟨hs.1.trans h.1,fun t=>?_⟩;rw [h.2];simp only [FB,hs.2]
 repeat' split
 all_goals first
  | (exfalso;omega)
  | (congr 1<;>omega)
theorem KK {xs ys:List α} {a m b:Nat} (h:Gd d xs ys a m b) (h1:a≤m) (h2:m≤b):Cp d a b xs ys :=
 ⟨h.1,fun t ht=>by rw [h.2,FB,if_neg (by omega),if_neg (by omega)],fun t k1 k2=>by
  rw [h.2,FB];split
  ·exact ⟨t+(m - a),by omega,by omega,rfl⟩
  ·split
   ·exact ⟨t - (b - m),by omega,by omega,rfl⟩
   ·exact ⟨t,k1,k2,rfl⟩⟩
theorem Ly (xs:List α) {a m b:Nat} (h:a=m∨b=m) (h1:a≤m) (h2:m≤b):Gd d xs xs a m b:=⟨.refl _,fun t=>by
 simp only [FB]
 repeat' split
 all_goals first
  | (exfalso;omega)
  | (congr 1<;>omega)⟩
theorem Uy {xs ys:List α} {a k:Nat} (h:Gd d xs ys a (a+1) (k+1)) (hk:a≤k) (hl:k+1 < xs.length):Gd d xs (swap d ys k (k+1)) a (a+1) (k+2):=by
 have hn:ys.length=xs.length:=h.1.length_eq;refine ⟨(J2 (by omega) (by omega)).trans h.1,fun t=>?_⟩;rw [FG (by omega) (by omega),h.2,h.2,h.2];simp only [FB]
 repeat' split
 all_goals first
  | (exfalso;omega)
  | (congr 1<;>omega)
theorem WZ {xs ys:List α} {m k:Nat} (h:Gd d xs ys k m (m+1)) (hk:0 < k) (hkm:k≤m) (hl:m < xs.length):Gd d xs (swap d ys k (k - 1)) (k - 1) m (m+1):=by
 have hn:ys.length=xs.length:=h.1.length_eq;refine ⟨(J2 (by omega) (by omega)).trans h.1,fun t=>?_⟩;rw [FG (by omega) (by omega),h.2,h.2,h.2];simp only [FB]
 repeat' split
 all_goals first
  | (exfalso;omega)
  | (congr 1<;>omega)
theorem Ord.rf (O:Ord cf) (x:α):le cf x x:=fun h=>O.asy h h
theorem Bc.le' (O:Ord cf) {xs:List α} {a b i j:Nat} (h:Bc cf d xs a b) (h1:a≤i) (h2:i≤j) (h3:j < b):le cf (xs.getD i d) (xs.getD j d):=by
 by_cases e:i=j
 ·subst e;exact O.rf _
 ·exact h i j h1 (by omega) h3
theorem NJ (O:Ord cf) {xs zs:List α} {a m b s e c:Nat} (h1:Bc cf d xs a m) (h2:Bc cf d xs m b) (hr:Gd d xs zs s m e) (k1:a≤s) (k2:s≤m) (k3:m≤e) (k4:e≤b) (hc:c=s+(e - m))
  (hA:s=a∨e=b∨le cf (xs.getD (s - 1) d) (xs.getD e d)) (hB:e=m∨s=m∨cf (xs.getD (e - 1) d) (xs.getD s d) < 0) :
  Bc cf d zs a s∧Bc cf d zs s c∧Bc cf d zs c e∧Bc cf d zs e b∧∀ i j,a≤i→i < c→c≤j→j < b→le cf (zs.getD i d) (zs.getD j d):=by
 subst hc;have g1:∀ t,t < s→zs.getD t d=xs.getD t d:=fun t ht=>by rw [hr.2,FB,if_neg (by omega),if_neg (by omega)]
 have g2:∀ t,s≤t→t < s+(e - m)→zs.getD t d=xs.getD (t+(m - s)) d:=fun t ht ht2=>by rw [hr.2,FB,if_pos ⟨ht,ht2⟩]
 have g3:∀ t,s+(e - m)≤t→t < e→zs.getD t d=xs.getD (t - (e - m)) d:=fun t ht ht2=>by rw [hr.2,FB,if_neg (by omega),if_pos ⟨ht,ht2⟩]
 have g4:∀ t,e≤t→zs.getD t d=xs.getD t d:=fun t ht=>by rw [hr.2,FB,if_neg (by omega),if_neg (by omega)]
 refine ⟨fun i j q1 q2 q3=>?_,fun i j q1 q2 q3=>?_,fun i j q1 q2 q3=>?_,fun i j q1 q2 q3=>?_,fun i j q1 q2 q3 q4=>?_⟩
 ·rw [g1 i (by omega),g1 j q3];exact h1 i j q1 q2 (by omega)
 ·rw [g2 i q1 (by omega),g2 j (by omega) q3];exact h2 _ _ (by omega) (by omega) (by omega)
 ·rw [g3 i q1 (by omega),g3 j (by omega) q3];exact h1 _ _ (by omega) (by omega) (by omega)
 ·rw [g4 i q1,g4 j (by omega)];exact h2 i j (by omega) q2 q3
 ·by_cases c1:i < s
  ·rw [g1 i c1];by_cases c2:j < e
   ·rw [g3 j q3 c2];exact h1 _ _ q1 (by omega) (by omega)
   ·rw [g4 j (by omega)]
    have hA':le cf (xs.getD (s - 1) d) (xs.getD e d):=by
     rcases hA with h|h|h
     ·omega
     ·omega
     ·exact h
    exact O.tr (O.tr (h1.le' O q1 (show i≤s - 1 by omega) (by omega)) hA') (h2.le' O k3 (by omega) q4)
  ·rw [g2 i (by omega) q2];by_cases c2:j < e
   ·rw [g3 j q3 c2]
    have hB':cf (xs.getD (e - 1) d) (xs.getD s d) < 0:=by
     rcases hB with h|h|h
     ·omega
     ·omega
     ·exact h
    exact O.tr (O.tr (h2.le' O (by omega) (show i+(m - s)≤e - 1 by omega) (by omega)) (O.asy hB')) (h1.le' O k1 (by omega) (by omega))
   ·rw [g4 j (by omega)];exact h2 _ _ (by omega) (by omega) q4
theorem Jk {xs ys zs:List α} {a b c:Nat} (hx:∀ i j,a≤i→i < c→c≤j→j < b→le cf (xs.getD i d) (xs.getD j d)) (u1:Cp d a c xs ys) (s1:Bc cf d ys a c) (u2:Cp d c b ys zs) (s2:Bc cf d zs c b):Bc cf d zs a b:=by
 intro i j q1 q2 q3;by_cases c1:j < c
 ·rw [u2.out i (by omega),u2.out j (by omega)];exact s1 i j q1 q2 c1
 ·by_cases c2:c≤i
  ·exact s2 i j c2 q2 q3
  ·rw [u2.out i (by omega)];obtain ⟨i',a1,a2,e1⟩:=u1.mem i q1 (by omega);obtain ⟨j',b1,b2,e2⟩:=u2.mem j (by omega) q3;rw [e1,e2,u1.out j' (by omega)];exact hx i' j' a1 a2 b1 b2
def Nx (cf:α→α→Int) (d:α) (xs:List α) (p lo hi s r:Nat):Prop:=(∀ c,lo≤c→c < s→le cf (xs.getD c d) (xs.getD (p - c) d))∧∀ c,r≤c→c < hi→cf (xs.getD (p - c) d) (xs.getD c d) < 0
theorem Zh (O:Ord cf) {xs:List α} {a m b p lo hi s r c:Nat} (h1:Bc cf d xs a m) (h2:Bc cf d xs m b) (h:Nx cf d xs p lo hi s r) (ha:a≤lo) (hc:c < m) (hp1:m≤p - c) (hp2:p - lo < b) (hcl:lo≤c) (hcp:c≤p) (hn:¬ cf (xs.getD (p - c) d) (xs.getD c d) < 0):Nx cf d xs p lo hi (c+1) r :=
 ⟨fun x q1 q2=>O.tr (O.tr (h1.le' O (by omega) (show x≤c by omega) hc) hn) (h2.le' O hp1 (by omega) (by omega)),h.2⟩
theorem lt_le (O:Ord cf) {x y z:α} (h:cf x y < 0) (g:le cf y z):cf x z < 0:=Decidable.byContradiction fun n=>O.tr g n h
theorem le_lt (O:Ord cf) {x y z:α} (h:le cf x y) (g:cf y z < 0):cf x z < 0:=Decidable.byContradiction fun n=>O.tr n h g
theorem Ua (O:Ord cf) {xs:List α} {a m b p lo hi s r c:Nat} (h1:Bc cf d xs a m) (h2:Bc cf d xs m b) (h:Nx cf d xs p lo hi s r) (ha:a≤c) (hi1:hi≤m) (hp1:m≤p - (hi - 1)) (hp2:p - c < b) (hc:c < hi) (hn:cf (xs.getD (p - c) d) (xs.getD c d) < 0):Nx cf d xs p lo hi s c :=
 ⟨h.1,fun x q1 q2=>le_lt O (h2.le' O (show m≤p - x by omega) (show p - x≤p - c by omega) hp2) (lt_le O hn (h1.le' O ha q1 (by omega)))⟩
theorem Xw (O:Ord cf) {xs ys:List α} {a i b:Nat} (h:Bc cf d xs (a+1) b) (hr:Gd d xs ys a (a+1) i) (h1:a+1≤i) (h2:i≤b) (hA:∀ t,a+1≤t→t < i→cf (xs.getD t d) (xs.getD a d) < 0) (hB:∀ t,i≤t→t < b→¬ cf (xs.getD t d) (xs.getD a d) < 0):Bc cf d ys a b:=by
 intro p q q1 q2 q3;rw [hr.2,hr.2];simp only [FB];have e1:a+1 - a=1:=by omega
 rw [e1];by_cases c1:p < i - 1
 ·rw [if_pos (show a≤p∧p < a+(i - (a+1)) by omega)];by_cases c2:q < i - 1
  ·rw [if_pos (show a≤q∧q < a+(i - (a+1)) by omega)];exact h _ _ (by omega) (by omega) (by omega)
  ·rw [if_neg (show ¬ (a≤q∧q < a+(i - (a+1))) by omega)];by_cases c3:q < i
   ·rw [if_pos (show a+(i - (a+1))≤q∧q < i by omega),show q - (i - (a+1))=a by omega];exact O.asy (hA (p+1) (by omega) (by omega))
   ·rw [if_neg (show ¬ (a+(i - (a+1))≤q∧q < i) by omega)];exact h _ _ (by omega) (by omega) q3
 ·rw [if_neg (show ¬ (a≤p∧p < a+(i - (a+1))) by omega),if_neg (show ¬ (a≤q∧q < a+(i - (a+1))) by omega),if_neg (show ¬ (a+(i - (a+1))≤q∧q < i) by omega)];by_cases c3:p < i
  ·rw [if_pos (show a+(i - (a+1))≤p∧p < i by omega),show p - (i - (a+1))=a by omega];exact hB q (by omega) q3
  ·rw [if_neg (show ¬ (a+(i - (a+1))≤p∧p < i) by omega)];exact h _ _ (by omega) q2 q3
theorem UU (O:Ord cf) {xs ys:List α} {a i m:Nat} (h:Bc cf d xs a m) (hr:Gd d xs ys i m (m+1)) (h1:a≤i) (h2:i≤m) (hA:∀ t,a≤t→t < i→¬ cf (xs.getD m d) (xs.getD t d) < 0) (hB:∀ t,i≤t→t < m→cf (xs.getD m d) (xs.getD t d) < 0):Bc cf d ys a (m+1):=by
 intro p q q1 q2 q3;rw [hr.2,hr.2];simp only [FB];have e1:m+1 - m=1:=by omega
 rw [e1];by_cases c1:p < i
 ·rw [if_neg (show ¬ (i≤p∧p < i+1) by omega),if_neg (show ¬ (i+1≤p∧p < m+1) by omega)];by_cases c2:q < i
  ·rw [if_neg (show ¬ (i≤q∧q < i+1) by omega),if_neg (show ¬ (i+1≤q∧q < m+1) by omega)];exact h _ _ q1 q2 (by omega)
  ·by_cases c3:q=i
   ·rw [if_pos (show i≤q∧q < i+1 by omega),show q+(m - i)=m by omega];exact hA p q1 c1
   ·rw [if_neg (show ¬ (i≤q∧q < i+1) by omega),if_pos (show i+1≤q∧q < m+1 by omega)];exact h _ _ q1 (by omega) (by omega)
 ·rw [if_neg (show ¬ (i≤q∧q < i+1) by omega),if_pos (show i+1≤q∧q < m+1 by omega)];by_cases c3:p=i
  ·rw [if_pos (show i≤p∧p < i+1 by omega),show p+(m - i)=m by omega];exact O.asy (hB (q - 1) (by omega) (by omega))
  ·rw [if_neg (show ¬ (i≤p∧p < i+1) by omega),if_pos (show i+1≤p∧p < m+1 by omega)];exact h _ _ (by omega) (by omega) (by omega)
def Es (cf:α→α→Int) (d:α) (xs:List α) (bs lo hi:Nat):Prop:=∀ i j,lo≤i→i < j→j < hi→i / bs=j / bs→le cf (xs.getD i d) (xs.getD j d)
theorem PU (xs:List α) (bs:Nat):Es cf d xs bs 0 0:=fun _ _ _ _ h=>by omega
theorem JJ {xs ys:List α} {bs q a b:Nat} (h:Es cf d xs bs 0 a) (ha:a=q * bs) (hb:0 < bs) (u:Cp d a b xs ys) (s:Bc cf d ys a b):Es cf d ys bs 0 b:=fun i j h1 h2 h3 h4=>by
 by_cases c:j < a
 ·rw [u.out i (by omega),u.out j (by omega)];exact h i j h1 h2 c h4
 ·have h5:q≤j / bs:=(Nat.le_div_iff_mul_le hb).2 (by omega);have h6:q≤i / bs:=by omega
  have h7:=(Nat.le_div_iff_mul_le hb).1 h6;exact s i j (by omega) h2 h3
theorem Yw {xs ys:List α} {bs a b n:Nat} (h:Es cf d xs bs a n) (u:Cp d a b xs ys) (hab:a≤b):Es cf d ys bs b n:=fun i j h1 h2 h3 h4=>by
 rw [u.out i (by omega),u.out j (by omega)];exact h i j (by omega) h2 h3 h4
theorem GU {xs:List α} {bs r lo b n:Nat} (h:Es cf d xs bs lo n) (hb:0 < bs) (h1:lo≤r * bs) (h2:b≤r * bs+bs) (h3:b≤n):Bc cf d xs (r * bs) b:=fun i j k1 k2 k3=>by
 have e:∀ t,r * bs≤t→t < b→t / bs=r:=fun t t1 t2=>by
  refine Nat.div_eq_of_lt_le t1 ?_;rw [Nat.succ_mul];omega
 exact h i j (by omega) k2 (by omega) ((e i k1 (by omega)).trans (e j (by omega) k3).symm)
theorem VU {xs:List α} {bs q a n:Nat} (h:Es cf d xs (2 * bs) 0 a) (g:Es cf d xs bs a n) (hb:0 < bs) (ha:a=q * (2 * bs)) (hn:n≤a+bs):Es cf d xs (2 * bs) 0 n:=fun i j h1 h2 h3 h4=>by
 by_cases c:j < a
 ·exact h i j h1 h2 c h4
 ·have h5:q≤j / (2 * bs):=(Nat.le_div_iff_mul_le (by omega)).2 (by omega);have h6:q≤i / (2 * bs):=by omega
  have h7:=(Nat.le_div_iff_mul_le (by omega)).1 h6;have e:a=(2 * q) * bs:=by rw [ha,Nat.mul_assoc,Nat.mul_left_comm]
  have:=GU (r:=2 * q) (b:=n) g hb (by omega) (by omega) (Nat.le_refl _);exact this i j (by omega) h2 h3
theorem Yx {xs:List α} {bs n:Nat} (h:Es cf d xs bs 0 n) (hn:n≤bs):Bc cf d xs 0 n:=fun i j h1 h2 h3=>h i j h1 h2 h3 (by rw [Nat.div_eq_of_lt (by omega),Nat.div_eq_of_lt (by omega)])
structure Tq {α:Type} (cf:α→α→Int):Prop extends Ord cf where
 an:∀ x y,cf x y = - cf y x
theorem Tq.lt_le (O:Tq cf) {x y z:α} (h:cf x y < 0) (g:le cf y z):cf x z < 0:=Srt.lt_le O.toOrd h g
theorem Tq.le_lt (O:Tq cf) {x y z:α} (h:le cf x y) (g:cf y z < 0):cf x z < 0:=Srt.le_lt O.toOrd h g
end
def Mw (a b:Int×Int):Int:=if a=b then 0 else if a.1 < b.1 then -1 else if b.1 < a.1 then 1 else if a.2 < b.2 then -1 else 1
def Ff (a b:Int×Int):Prop:=a.1 < b.1∨(a.1=b.1∧a.2 < b.2)
instance (a b:Int×Int):Decidable (Ff a b):=by unfold Ff;infer_instance
theorem dP (a b:Int×Int):Mw a b < 0↔Ff a b:=by
 obtain ⟨a1,a2⟩:=a;obtain ⟨b1,b2⟩:=b;unfold Mw Ff;simp only [Prod.mk.injEq];split
 ·omega
 ·split
  ·omega
  ·split
   ·omega
   ·split
    ·omega
    ·omega
theorem XR (a b:Int×Int):Mw a b=0↔a=b:=by
 unfold Mw;constructor
 ·intro h;split at h
  ·assumption
  ·split at h
   ·omega
   ·split at h
    ·omega
    ·split at h<;>omega
 ·rintro rfl;rw [if_pos rfl]
structure Tg (α:Type) where
 x:α
 t:Nat
section
variable {α:Type} (key:α→Int×Int)
def EJ (x y:Tg α):Prop:=Ff (key x.x) (key y.x)∨(key x.x=key y.x∧x.t < y.t)
instance (x y:Tg α):Decidable (EJ key x y):=by unfold EJ;infer_instance
def Kz (x y:Tg α):Int:=if EJ key x y then -1 else if EJ key y x then 1 else 0
theorem If (x y:Tg α):Kz key x y < 0↔EJ key x y:=by
 unfold Kz;split
 ·simp [*]
 ·split
  ·simp [*]
  ·simp [*]
theorem dQ {a b c:Int×Int} (h:Ff a b) (g:Ff b c):Ff a c:=by unfold Ff at *;omega
theorem Nn {a:Int×Int}:¬ Ff a a:=by unfold Ff;omega
theorem Rk (a b:Int×Int):Ff a b∨a=b∨Ff b a:=by
 obtain ⟨a1,a2⟩:=a;obtain ⟨b1,b2⟩:=b;unfold Ff;simp only [Prod.mk.injEq];omega
theorem J1 {x y z:Tg α} (h:EJ key x y) (g:EJ key y z):EJ key x z:=by
 unfold EJ at *;rcases h with h|⟨h1,h2⟩<;>rcases g with g|⟨g1,g2⟩
 ·exact .inl (dQ h g)
 ·exact .inl (by rw [← g1];exact h)
 ·exact .inl (by rw [h1];exact g)
 ·exact .inr ⟨h1.trans g1,by omega⟩
theorem QL {x:Tg α}:¬ EJ key x x:=by
 unfold EJ;rintro (h|⟨_,h⟩)
 ·exact Nn h
 ·omega
theorem QK (x y:Tg α):EJ key x y∨(key x.x=key y.x∧x.t=y.t)∨EJ key y x:=by
 unfold EJ;rcases Rk (key x.x) (key y.x) with h|h|h
 ·exact .inl (.inl h)
 ·by_cases h1:x.t < y.t
  ·exact .inl (.inr ⟨h,h1⟩)
  ·by_cases h2:y.t < x.t
   ·exact .inr (.inr (.inr ⟨h.symm,h2⟩))
   ·exact .inr (.inl ⟨h,by omega⟩)
 ·exact .inr (.inr (.inl h))
theorem jg:Ord (Kz key) where
 tr:=by
  intro x y z h g n;rw [If] at *;rcases QK key x y with a|a|a
  ·exact g (J1 key n a)
  ·refine g ?_;unfold EJ at n ⊢;rw [a.1,a.2] at n;exact n
  ·exact h a
 asy:=by
  intro x y h n;rw [If] at *;exact QL key (J1 key h n)
variable (d:Tg α)
def Dl (xs:List (Tg α)):Prop:=∀ i j,i < j→j < xs.length→key (xs.getD i d).x=key (xs.getD j d).x→(xs.getD i d).t < (xs.getD j d).t
variable {key d}
theorem Dl.lt {xs:List (Tg α)} (h:Dl key d xs) {i j:Nat} (hij:i < j) (hj:j < xs.length) :
  decide (Mw (key (xs.getD j d).x) (key (xs.getD i d).x) < 0)=decide (Kz key (xs.getD j d) (xs.getD i d) < 0):=by
 refine decide_eq_decide.2 ?_;rw [dP,If];unfold EJ;constructor
 ·exact .inl
 ·rintro (g|⟨g1,g2⟩)
  ·exact g
  ·have:=h i j hij hj g1.symm;omega
theorem Dl.upd {xs ys:List (Tg α)} {a b:Nat} (h:Dl key d xs) (hb:b≤xs.length) (hu:Cp d a b xs ys) (hs:Bc (Kz key) d ys a b) (hd:ys.Pairwise fun x y=>key x.x=key y.x→x.t≠y.t):Dl key d ys:=by
 intro i j hij hj hk;have hl:=hu.len
 have hdj:key (ys.getD i d).x=key (ys.getD j d).x→(ys.getD i d).t≠(ys.getD j d).t:=by
  rw [List.pairwise_iff_getElem] at hd;have:=hd i j (by omega) hj hij;rwa [DC (by omega),DC hj]
 by_cases hi:a≤i∧i < b
 ·by_cases hj2:a≤j∧j < b
  ·have h1:=hs i j hi.1 hij hj2.2;unfold le at h1;rw [If] at h1;have h2:=hdj hk;refine Decidable.byContradiction fun n=>h1 (.inr ⟨hk.symm,by omega⟩)
  ·obtain ⟨i',a1,a2,e⟩:=hu.mem i hi.1 hi.2;have ej:=hu.out j hj2;rw [e,ej] at hk ⊢;exact h i' j (by omega) (by omega) hk
 ·have ei:=hu.out i hi;by_cases hj2:a≤j∧j < b
  ·obtain ⟨j',a1,a2,e⟩:=hu.mem j hj2.1 hj2.2;rw [e,ei] at hk ⊢;exact h i j' (by omega) (by omega) hk
  ·rw [ei,hu.out j hj2] at hk ⊢;exact h i j hij (by omega) hk
theorem Dl.dis {xs ys:List (Tg α)} (h:Dl key d xs) (hp:ys.Perm xs):ys.Pairwise fun x y=>key x.x=key y.x→x.t≠y.t:=by
 refine (List.Perm.pairwise_iff (fun {x y} hxy e=>fun e2=>hxy e.symm e2.symm) hp.symm).1 ?_;rw [List.pairwise_iff_getElem];intro i j hi hj hij hk;have:=h i j hij hj (by rw [DC hi,DC hj];exact hk);rw [DC hi,DC hj] at this;omega
theorem Dl.sort {xs ys:List (Tg α)} {a b:Nat} (h:Dl key d xs) (hb:b≤xs.length) (hu:Cp d a b xs ys) (hs:Bc (Kz key) d ys a b):Dl key d ys :=
 h.upd hb hu hs (h.dis hu.perm)
theorem Dl.swap {xs:List (Tg α)} {j:Nat} (h:Dl key d xs) (hj:j+1 < xs.length) (hc:Kz key (xs.getD (j+1) d) (xs.getD j d) < 0):Dl key d (Srt.swap d xs (j+1) j):=by
 have hk:key (xs.getD (j+1) d).x≠key (xs.getD j d).x:=by
  intro e;rw [If] at hc;rcases hc with hc|hc
  ·rw [e] at hc;exact Nn hc
  ·have:=h j (j+1) (by omega) hj e.symm;omega
 intro p q hpq hq;rw [Wt] at hq;rw [FG hj (by omega),FG hj (by omega)];by_cases p1:p=j
 ·rw [if_pos p1];by_cases q1:q=j+1
  ·rw [if_neg (by omega),if_pos q1];intro e;exact (hk e).elim
  ·rw [if_neg (by omega),if_neg q1];exact h (j+1) q (by omega) hq
 ·rw [if_neg p1];by_cases p2:p=j+1
  ·rw [if_pos p2,if_neg (by omega),if_neg (by omega)];exact h j q (by omega) hq
  ·rw [if_neg p2];by_cases q1:q=j
   ·rw [if_pos q1];exact h p (j+1) (by omega) hj
   ·rw [if_neg q1];by_cases q2:q=j+1
    ·rw [if_pos q2];exact h p j (by omega) (by omega)
    ·rw [if_neg q2];exact h p q hpq hq
theorem Dl.swap' {xs:List (Tg α)} {i j:Nat} (h:Dl key d xs) (hij:i+1=j) (hj:j < xs.length) (hc:Kz key (xs.getD j d) (xs.getD i d) < 0):Dl key d (Srt.swap d xs j i):=by
 subst hij;exact h.swap hj hc
theorem Dl.rot {xs ys:List (Tg α)} {a m b:Nat} (h:Dl key d xs) (hr:Gd d xs ys a m b) (ham:a≤m) (hmb:m≤b) (hb:b≤xs.length)
  (hc:∀ i j,a≤i→i < m→m≤j→j < b→Kz key (xs.getD j d) (xs.getD i d) < 0):Dl key d ys:=by
 have hk:∀ i j,a≤i→i < m→m≤j→j < b→key (xs.getD j d).x≠key (xs.getD i d).x:=by
  intro i j h1 h2 h3 h4 e;have:=hc i j h1 h2 h3 h4;rw [If] at this;rcases this with c|c
  ·rw [e] at c;exact Nn c
  ·have:=h i j (by omega) (by omega) e.symm;omega
 intro p q hpq hq;rw [hr.1.length_eq] at hq;rw [hr.2,hr.2];simp only [FB];by_cases p1:a≤p∧p < a+(b - m)
 ·rw [if_pos p1];by_cases q1:a≤q∧q < a+(b - m)
  ·rw [if_pos q1];exact h _ _ (by omega) (by omega)
  ·rw [if_neg q1];by_cases q2:a+(b - m)≤q∧q < b
   ·rw [if_pos q2];intro e;exact (hk (q - (b - m)) (p+(m - a)) (by omega) (by omega) (by omega) (by omega) e).elim
   ·rw [if_neg q2];exact h _ _ (by omega) hq
 ·rw [if_neg p1];by_cases p2:a+(b - m)≤p∧p < b
  ·rw [if_pos p2,if_neg (show ¬ (a≤q∧q < a+(b - m)) by omega)];by_cases q2:a+(b - m)≤q∧q < b
   ·rw [if_pos q2];exact h _ _ (by omega) (by omega)
   ·rw [if_neg q2];exact h _ _ (by omega) hq
  ·rw [if_neg p2];by_cases q1:a≤q∧q < a+(b - m)
   ·rw [if_pos q1];exact h _ _ (by omega) (by omega)
   ·rw [if_neg q1];by_cases q2:a+(b - m)≤q∧q < b
    ·rw [if_pos q2];exact h _ _ (by omega) (by omega)
    ·rw [if_neg q2];exact h _ _ hpq hq
end
section
variable {α:Type} (key:α→Int×Int)
def EL (l:List α) (p:α):Nat→Nat
 | 0=>0
 | n+1=>match l[n]? with|some y=>if Ff (key p) (key y) then EL l p n else n+1|none=>n+1
def Dh (l:List α) (p:α):List α:=l.take (EL key l p l.length)++[p]++l.drop (EL key l p l.length)
def sortR (l:List α):List α:=l.foldl (Dh key) []
theorem PZ (l:List α) (p:α):∀ n,EL key l p n≤n
 | 0=>Nat.le_refl _
 | n+1=>by
  unfold EL;split
  ·split
   ·have:=PZ l p n;omega
   ·omega
  ·omega
theorem PY {l:List α} {p:α}:∀ n,n≤l.length→(∀ i (h:i < l.length),EL key l p n≤i→i < n→Ff (key p) (key l[i]))∧∀ i (h:i < l.length),i+1=EL key l p n→¬ Ff (key p) (key l[i])
 | 0,_=>⟨fun i h h1 h2=>by omega,fun i h h1=>by simp [EL] at h1⟩
 | n+1,hn=>by
  have hx:l[n]? = some l[n]:=List.getElem?_eq_getElem (by omega);have ih:=PY (l:=l) (p:=p) n (by omega);by_cases hk:Ff (key p) (key l[n])
  ·have e:EL key l p (n+1)=EL key l p n:=by rw [EL,hx];simp only;rw [if_pos hk]
   rw [e];refine ⟨fun i h h1 h2=>?_,ih.2⟩;by_cases hi:i < n
   ·exact ih.1 i h h1 hi
   ·obtain rfl:i=n:=by omega
    exact hk
  ·have e:EL key l p (n+1)=n+1:=by rw [EL,hx];simp only;rw [if_neg hk]
   rw [e];refine ⟨fun i h h1 h2=>by omega,fun i h h1=>?_⟩;obtain rfl:i=n:=by omega
   exact hk
theorem Kn (l:List α) (p:α):(Dh key l p).Perm (l++[p]):=by
 unfold Dh;generalize EL key l p l.length=n;rw [List.append_assoc];refine (List.Perm.append_left _ List.perm_append_comm).trans ?_;rw [← List.append_assoc,List.take_append_drop]
theorem XV {l:List (Tg α)} {p:Tg α} (h:l.Pairwise (EJ key)) (ht:∀ y∈l,y.t < p.t):(Dh (fun x:Tg α=>key x.x) l p).Pairwise (EJ key):=by
 have hs:=PY (fun x:Tg α=>key x.x) (l:=l) (p:=p) l.length (Nat.le_refl _);have hle:=PZ (fun x:Tg α=>key x.x) l p l.length;unfold Dh;generalize EL (fun x:Tg α=>key x.x) l p l.length=n at *;rw [List.pairwise_iff_getElem] at h
 have hA:∀ i (hi:i < l.length),i < n→EJ key l[i] p:=by
  intro i hi hin;have h1:¬ Ff (key p.x) (key (l[n - 1]'(by omega)).x):=hs.2 (n - 1) (by omega) (by omega)
  have h2:EJ key (l[n - 1]'(by omega)) p:=by
   rcases Rk (key p.x) (key (l[n - 1]'(by omega)).x) with a|a|a
   ·exact (h1 a).elim
   ·exact .inr ⟨a.symm,ht _ (List.getElem_mem _)⟩
   ·exact .inl a
  by_cases e:i=n - 1
  ·subst e;exact h2
  ·exact J1 key (h i (n - 1) hi (by omega) (by omega)) h2
 have hB:∀ i (hi:i < l.length),n≤i→EJ key p l[i]:=fun i hi hin=>.inl (hs.1 i hi hin hi)
 rw [List.append_assoc,List.pairwise_append];refine ⟨?_,?_,?_⟩
 ·rw [List.pairwise_iff_getElem];intro i j hi hj hij;rw [List.getElem_take,List.getElem_take];exact h i j _ _ hij
 ·rw [List.cons_append,List.nil_append,List.pairwise_cons];refine ⟨fun y hy=>?_,?_⟩
  ·obtain ⟨i,hi,rfl⟩:=List.getElem_of_mem hy;rw [List.getElem_drop];exact hB _ _ (by omega)
  ·rw [List.pairwise_iff_getElem];intro i j hi hj hij;rw [List.getElem_drop,List.getElem_drop];exact h _ _ _ _ (by omega)
 ·intro x hx y hy;obtain ⟨i,hi,rfl⟩:=List.getElem_of_mem hx;rw [List.getElem_take];have hi2:i < n∧i < l.length:=by rw [List.length_take] at hi;omega
  rcases List.mem_cons.1 hy with rfl|hy
  ·exact hA i hi2.2 hi2.1
  ·obtain ⟨j,hj,rfl⟩:=List.getElem_of_mem (show y∈l.drop n from hy);rw [List.getElem_drop];exact J1 key (hA i hi2.2 hi2.1) (hB _ _ (by omega))
def tagF (α:Type):List α→Nat→List (Tg α)
 | [],_=>[]
 | x::r,n=>⟨x,n⟩::tagF α r (n+1)
theorem RH (l:List (Tg α)) (p:Tg α):∀ n,EL (fun x:Tg α=>key x.x) l p n=EL key (l.map (·.x)) p.x n
 | 0=>rfl
 | n+1=>by
  rw [EL,EL,List.getElem?_map]
  cases l[n]? with
  | none=>rfl
  | some y=>simp only [Option.map_some];rw [RH l p n]
theorem XW (l:List (Tg α)) (p:Tg α):(Dh (fun x:Tg α=>key x.x) l p).map (·.x)=Dh key (l.map (·.x)) p.x:=by
 unfold Dh;rw [RH,List.length_map,List.map_append,List.map_append,List.map_take,List.map_drop];rfl
theorem Ob:∀ (ps:List α) (n:Nat) (acc:List (Tg α)),acc.Pairwise (EJ key)→(∀ y∈acc,y.t < n) →
  ∃ zs:List (Tg α),zs.Perm (acc++tagF α ps n)∧zs.Pairwise (EJ key)∧zs.map (·.x)=ps.foldl (Dh key) (acc.map (·.x))
 | [],n,acc,h,_=>⟨acc,by simp [tagF],h,rfl⟩
 | x::r,n,acc,h,ht=>by
  have h1:=XV key (p:=⟨x,n⟩) h ht;have h2:=Kn (fun x:Tg α=>key x.x) acc ⟨x,n⟩
  obtain ⟨zs,a,b,c⟩:=Ob r (n+1) _ h1 (fun y hy=>by
   rcases List.mem_append.1 (h2.mem_iff.1 hy) with hy|hy
   ·have:=ht y hy;omega
   ·obtain rfl:=List.mem_singleton.1 hy;exact Nat.lt_succ_self n)
  refine ⟨zs,a.trans ?_,b,?_⟩
  ·rw [tagF,show acc++⟨x,n⟩::tagF α r (n+1)=(acc++[⟨x,n⟩])++tagF α r (n+1) by simp];exact h2.append_right _
  ·rw [c,XW];rfl
theorem tagF_map:∀ (ps:List α) (n:Nat),(tagF α ps n).map (·.x)=ps
 | [],_=>rfl
 | x::r,n=>by rw [tagF,List.map_cons,tagF_map r]
theorem TS:∀ (ps:List α) (n:Nat),(tagF α ps n).Pairwise (fun x y=>x.t < y.t)∧∀ y∈tagF α ps n,n≤y.t
 | [],_=>⟨.nil,fun y hy=>by cases hy⟩
 | x::r,n=>by
  have ih:=TS r (n+1);refine ⟨List.pairwise_cons.2 ⟨fun y hy=>by have:=ih.2 y hy;show n < y.t;omega,ih.1⟩,fun y hy=>?_⟩;rcases List.mem_cons.1 hy with rfl|hy
  ·exact Nat.le_refl _
  ·have:=ih.2 y hy;omega
theorem tagF_stb (d:Tg α) (ps:List α):Dl key d (tagF α ps 0):=by
 intro i j hij hj _;have:=(List.pairwise_iff_getElem.1 (TS ps 0).1) i j (by omega) hj hij;rwa [DC (by omega),DC hj]
theorem YN {β:Type} {R:β→β→Prop} (tr:∀ {x y z},R x y→R y z→R x z) (ir:∀ x,¬ R x x):∀ {xs ys:List β},xs.Perm ys→xs.Pairwise R→ys.Pairwise R→xs=ys
 | [],ys,h,_,_=>(List.nil_perm.1 h).symm
 | x::r,[],h,_,_=>absurd h.length_eq (by simp)
 | x::r,y::s,h,hx,hy=>by
  have hxy:x=y:=by
   rcases List.mem_cons.1 (h.mem_iff.1 List.mem_cons_self) with e|h1
   ·exact e
   ·rcases List.mem_cons.1 (h.mem_iff.2 (List.mem_cons_self (a:=y) (l:=s))) with e|h2
    ·exact e.symm
    ·exact (ir x (tr ((List.pairwise_cons.1 hx).1 y h2) ((List.pairwise_cons.1 hy).1 x h1))).elim
  subst hxy;rw [YN (R:=R) tr ir (List.Perm.cons_inv h) (List.pairwise_cons.1 hx).2 (List.pairwise_cons.1 hy).2]
theorem sort_eq {d:Tg α} {ps:List α} {ys:List (Tg α)} (hp:ys.Perm (tagF α ps 0)) (hs:Bc (Kz key) d ys 0 ys.length):ys.map (·.x)=sortR key ps:=by
 obtain ⟨zs,a,b,c⟩:=Ob key ps 0 [] .nil (fun y hy=>by cases hy);have hd:=(tagF_stb key d ps).dis hp
 have hy:ys.Pairwise (EJ key):=by
  rw [List.pairwise_iff_getElem] at hd ⊢;intro i j hi hj hij;have h1:=hs i j (Nat.zero_le _) hij hj;unfold le at h1;rw [DC hi,DC hj,If] at h1;rcases QK key ys[i] ys[j] with e|e|e
  ·exact e
  ·exact (hd i j hi hj hij e.1 e.2).elim
  ·exact (h1 e).elim
 have e:ys=zs:=YN (R:=EJ key) (J1 key) (fun x=>QL key) (hp.trans (by simpa using a.symm)) hy b;rw [e,c];rfl
end
end Go.Srt
