/- Part 27 of a proof; no conditions. -/
import Derived.Test.YtmmbidoldegemaaGreatDoorZ02
set_option linter.all false
set_option maxRecDepth 8000
set_option maxHeartbeats 8000000
namespace Go.Srt
structure Ord {α:Type} (cf:α→α→Int):Prop where
 tr:∀ {x y z},¬ cf y x < 0→¬ cf z y < 0→¬ cf z x < 0
 asy:∀ {x y},cf x y < 0→¬ cf y x < 0
section
variable {α:Type} {cf:α→α→Int} {d:α}
abbrev le (cf:α→α→Int) (x y:α):Prop:=¬ cf y x < 0
def Bn (cf:α→α→Int) (d:α) (xs:List α) (a b:Nat):Prop:=∀ i j,a≤i→i < j→j < b→le cf (xs.getD i d) (xs.getD j d)
structure CD (d:α) (a b:Nat) (xs ys:List α):Prop where
 perm:ys.Perm xs
 out:∀ t,¬ (a≤t∧t < b)→ys.getD t d=xs.getD t d
 mem:∀ t,a≤t→t < b→∃ t',a≤t'∧t' < b∧ys.getD t d=xs.getD t' d
theorem CD.len {a b xs ys} (h:CD d a b xs ys):ys.length=xs.length:=h.perm.length_eq
theorem CD.refl (a b xs):CD d a b xs xs:=⟨.refl _,fun _ _=>rfl,fun t h1 h2=>⟨t,h1,h2,rfl⟩⟩
theorem CD.trans {a b xs ys zs} (h:CD d a b xs ys) (g:CD d a b ys zs):CD d a b xs zs :=
 ⟨g.perm.trans h.perm,fun t ht=>(g.out t ht).trans (h.out t ht),fun t h1 h2=>by
  obtain ⟨t1,a1,b1,e1⟩:=g.mem t h1 h2;obtain ⟨t2,a2,b2,e2⟩:=h.mem t1 a1 b1;exact ⟨t2,a2,b2,e1.trans e2⟩⟩
theorem CD.wide {a b a' b' xs ys} (h:CD d a b xs ys) (ha:a'≤a) (hb:b≤b'):CD d a' b' xs ys :=
 ⟨h.perm,fun t ht=>h.out t fun k=>ht ⟨by omega,by omega⟩,fun t h1 h2=>by
  by_cases k:a≤t∧t < b
  ·obtain ⟨t',a1,b1,e⟩:=h.mem t k.1 k.2;exact ⟨t',by omega,by omega,e⟩
  ·exact ⟨t,h1,h2,h.out t k⟩⟩
theorem D3 {xs:List α} {i} (h):xs.getD i d=xs[i]:=by
 rw [List.getD_eq_getElem?_getD,List.getElem?_eq_getElem h,Option.getD_some]
def swap (d:α) (xs:List α) (i j:Nat):List α:=(xs.set i (xs.getD j d)).set j (xs.getD i d)
theorem XK (xs i j):(swap d xs i j).length=xs.length:=by simp [swap]
theorem FH {xs i j} (hi:i < xs.length) (hj:j < xs.length) (t):(swap d xs i j).getD t d=if t=j then xs.getD i d else if t=i then xs.getD j d else xs.getD t d:=by
 unfold swap;rw [List.getD_eq_getElem?_getD,List.getElem?_set,List.length_set];by_cases h1:j=t
 ·subst h1;rw [if_pos rfl,if_pos hj,if_pos rfl,Option.getD_some]
 ·rw [if_neg h1,if_neg (fun e=>h1 e.symm),List.getElem?_set];by_cases h2:i=t
  ·subst h2;rw [if_pos rfl,if_pos hi,if_pos rfl,Option.getD_some]
  ·rw [if_neg h2,if_neg (fun e=>h2 e.symm),← List.getD_eq_getElem?_getD]
theorem I0 {xs i j} (hi:i < xs.length) (hj:j < xs.length):(swap d xs i j).Perm xs:=by
 unfold swap;rw [D3 hi,D3 hj];exact List.set_set_perm hi hj
theorem XJ {xs i j a b} (hi:i < xs.length) (hj:j < xs.length) (h1:a≤i∧i < b) (h2:a≤j∧j < b):CD d a b xs (swap d xs i j) :=
 ⟨I0 hi hj,fun t ht=>by rw [FH hi hj,if_neg (by omega),if_neg (by omega)],fun t k1 k2=>by
  rw [FH hi hj];split
  ·exact ⟨i,h1.1,h1.2,rfl⟩
  ·split
   ·exact ⟨j,h2.1,h2.2,rfl⟩
   ·exact ⟨t,k1,k2,rfl⟩⟩
def SV (cf:α→α→Int) (d:α) (xs:List α) (a j b:Nat):Prop:=∀ p q,a≤p→p < q→q < b→q≠j→le cf (xs.getD p d) (xs.getD q d)
theorem Wm {xs a i} (h:Bn cf d xs a i):SV cf d xs a i (i+1):=fun p q h1 h2 h3 h4=>h p q h1 h2 (by omega)
theorem Zj (Oqq:Ord cf) {xs a j b} (h:SV cf d xs a j b) (hj:a < j) (hjb:j < b) (hb:b≤xs.length) (hlt:cf (xs.getD j d) (xs.getD (j - 1) d) < 0):SV cf d (swap d xs j (j - 1)) a (j - 1) b:=by
 intro p q h1 h2 h3 h4;rw [FH (by omega) (by omega),FH (by omega) (by omega)];by_cases c1:q=j
 ·subst c1;rw [if_neg h4,if_pos rfl];by_cases c2:p=q - 1
  ·rw [if_pos c2];exact Oqq.asy hlt
  ·rw [if_neg c2,if_neg (by omega)];exact h p (q - 1) h1 (by omega) (by omega) (by omega)
 ·rw [if_neg h4,if_neg c1];by_cases c2:p=j - 1
  ·rw [if_pos c2];exact h j q (by omega) (by omega) h3 c1
  ·rw [if_neg c2];by_cases c3:p=j
   ·rw [if_pos c3];exact h (j - 1) q (by omega) (by omega) h3 c1
   ·rw [if_neg c3];exact h p q h1 h2 h3 c1
theorem Wl {xs a b} (h:SV cf d xs a a b):Bn cf d xs a b:=fun p q h1 h2 h3=>h p q h1 h2 h3 (by omega)
theorem dx (Oqq:Ord cf) {xs a j b} (h:SV cf d xs a j b) (hj:a < j) (hn:¬ cf (xs.getD j d) (xs.getD (j - 1) d) < 0):Bn cf d xs a b:=by
 intro p q h1 h2 h3;by_cases c:q=j
 ·subst c;by_cases c2:p=q - 1
  ·subst c2;exact hn
  ·exact Oqq.tr (h p (q - 1) h1 (by omega) (by omega) (by omega)) hn
 ·exact h p q h1 h2 h3 c
theorem X1 {xs a b} (h:b≤a+1):Bn cf d xs a b:=fun i j h1 h2 h3=>by omega
theorem X0 {xs a b a' b'} (h:Bn cf d xs a b) (h1:a≤a') (h2:b'≤b):Bn cf d xs a' b':=fun i j k1 k2 k3=>h i j (by omega) k2 (by omega)
theorem J9 {xs ys a b a' b'} (h:Bn cf d xs a b) (g:CD d a' b' xs ys) (ho:b≤a'∨b'≤a):Bn cf d ys a b:=fun i j h1 h2 h3=>by
 rw [g.out i (by omega),g.out j (by omega)];exact h i j h1 h2 h3
def Jq (d:α) (xs ys:List α) (a b n:Nat):Prop:=ys.Perm xs∧∀ t,ys.getD t d=if a≤t∧t < a+n then xs.getD (t - a+b) d else if b≤t∧t < b+n then xs.getD (t - b+a) d else xs.getD t d
theorem XL (xs a b):Jq d xs xs a b 0:=⟨.refl _,fun t=>by rw [if_neg (by omega),if_neg (by omega)]⟩
theorem XM {xs ys a b n} (h:Jq d xs ys a b n) (hab:a+n < b) (hb:b+n < xs.length):Jq d xs (swap d ys (a+n) (b+n)) a b (n+1):=by
 have hl:ys.length=xs.length:=h.1.length_eq;refine ⟨(I0 (by omega) (by omega)).trans h.1,fun t=>?_⟩;rw [FH (by omega) (by omega),h.2,h.2,h.2];by_cases c1:t=b+n
 ·rw [if_pos c1,if_neg (show ¬ (a≤a+n∧a+n < a+n) by omega),if_neg (show ¬ (b≤a+n∧a+n < b+n) by omega),if_neg (show ¬ (a≤t∧t < a+(n+1)) by omega),if_pos (show b≤t∧t < b+(n+1) by omega)]
  congr 1;omega
 ·rw [if_neg c1];by_cases c2:t=a+n
  ·rw [if_pos c2,if_neg (show ¬ (a≤b+n∧b+n < a+n) by omega),if_neg (show ¬ (b≤b+n∧b+n < b+n) by omega),if_pos (show a≤t∧t < a+(n+1) by omega)]
   congr 1;omega
  ·rw [if_neg c2];by_cases c3:a≤t∧t < a+n
   ·rw [if_pos c3,if_pos (show a≤t∧t < a+(n+1) by omega)]
   ·rw [if_neg c3,if_neg (show ¬ (a≤t∧t < a+(n+1)) by omega)];by_cases c4:b≤t∧t < b+n
    ·rw [if_pos c4,if_pos (show b≤t∧t < b+(n+1) by omega)]
    ·rw [if_neg c4,if_neg (show ¬ (b≤t∧t < b+(n+1)) by omega)]
def Fn (f:Nat→α) (a m b t:Nat):α:=if a≤t∧t < a+(b - m) then f (t+(m - a)) else if a+(b - m)≤t∧t < b then f (t - (b - m)) else f t
def GK (d:α) (xs ys:List α) (a m b:Nat):Prop:=ys.Perm xs∧∀ t,ys.getD t d=Fn (xs.getD · d) a m b t
def MN (d:α) (xs ys:List α) (a m b i j:Nat):Prop:=ys.Perm xs∧∀ t,Fn (xs.getD · d) a m b t=Fn (ys.getD · d) (m - i) m (m+j) t
theorem TC (xs) {a m b} (h1:a≤m) (h2:m≤b):MN d xs xs a m b (m - a) (b - m):=⟨.refl _,fun t=>by
 rw [show m - (m - a)=a by omega,show m+(b - m)=b by omega]⟩
theorem bG {xs ys zs a m b i j} (h:MN d xs ys a m b i j) (hs:Jq d ys zs (m - i) m j) (hij:j < i) (hi:i≤m):MN d xs zs a m b (i - j) j:=by
 refine ⟨hs.1.trans h.1,fun t=>?_⟩;rw [h.2];simp only [Fn,hs.2]
 repeat' split
 all_goals first
  | (exfalso;omega)
  | (congr 1<;>omega)
theorem bF {xs ys zs a m b i j} (h:MN d xs ys a m b i j) (hs:Jq d ys zs (m - i) (m+j - i) i) (hij:i < j) (hi:i≤m):MN d xs zs a m b i (j - i):=by
 refine ⟨hs.1.trans h.1,fun t=>?_⟩;rw [h.2];simp only [Fn,hs.2]
 repeat' split
 all_goals first
  | (exfalso;omega)
  | (congr 1<;>omega)
theorem Yr {xs ys zs a m b i} (h:MN d xs ys a m b i i) (hs:Jq d ys zs (m - i) m i) (hi:i≤m):GK d xs zs a m b:=by
 refine ⟨hs.1.trans h.1,fun t=>?_⟩;rw [h.2];simp only [Fn,hs.2]
 repeat' split
 all_goals first
  | (exfalso;omega)
  | (congr 1<;>omega)
theorem Lz {xs ys a m b} (h:GK d xs ys a m b) (h1:a≤m) (h2:m≤b):CD d a b xs ys :=
 ⟨h.1,fun t ht=>by rw [h.2,Fn,if_neg (by omega),if_neg (by omega)],fun t k1 k2=>by
  rw [h.2,Fn];split
  ·exact ⟨t+(m - a),by omega,by omega,rfl⟩
  ·split
   ·exact ⟨t - (b - m),by omega,by omega,rfl⟩
   ·exact ⟨t,k1,k2,rfl⟩⟩
theorem Mq (xs) {a m b} (h:a=m∨b=m) (h1:a≤m) (h2:m≤b):GK d xs xs a m b:=⟨.refl _,fun t=>by
 simp only [Fn]
 repeat' split
 all_goals first
  | (exfalso;omega)
  | (congr 1<;>omega)⟩
theorem VE {xs ys a k} (h:GK d xs ys a (a+1) (k+1)) (hk:a≤k) (hl:k+1 < xs.length):GK d xs (swap d ys k (k+1)) a (a+1) (k+2):=by
 have hn:ys.length=xs.length:=h.1.length_eq;refine ⟨(I0 (by omega) (by omega)).trans h.1,fun t=>?_⟩;rw [FH (by omega) (by omega),h.2,h.2,h.2];simp only [Fn]
 repeat' split
 all_goals first
  | (exfalso;omega)
  | (congr 1<;>omega)
theorem Yq {xs ys m k} (h:GK d xs ys k m (m+1)) (hk:0 < k) (hkm:k≤m) (hl:m < xs.length):GK d xs (swap d ys k (k - 1)) (k - 1) m (m+1):=by
 have hn:ys.length=xs.length:=h.1.length_eq;refine ⟨(I0 (by omega) (by omega)).trans h.1,fun t=>?_⟩;rw [FH (by omega) (by omega),h.2,h.2,h.2];simp only [Fn]
 repeat' split
 all_goals first
  | (exfalso;omega)
  | (congr 1<;>omega)
theorem Ord.rf (Oqq:Ord cf) (x):le cf x x:=fun h=>Oqq.asy h h
theorem Bn.le' (Oqq:Ord cf) {xs a b i j} (h:Bn cf d xs a b) (h1:a≤i) (h2:i≤j) (h3:j < b):le cf (xs.getD i d) (xs.getD j d):=by
 by_cases e:i=j
 ·subst e;exact Oqq.rf _
 ·exact h i j h1 (by omega) h3
theorem OG (Oqq:Ord cf) {xs zs a m b s e c} (h1:Bn cf d xs a m) (h2:Bn cf d xs m b) (hr:GK d xs zs s m e) (k1:a≤s) (k2:s≤m) (k3:m≤e) (k4:e≤b) (hc:c=s+(e - m)) (hA:s=a∨e=b∨le cf (xs.getD (s - 1) d) (xs.getD e d)) (hB:e=m∨s=m∨cf (xs.getD (e - 1) d) (xs.getD s d) < 0):
  Bn cf d zs a s∧Bn cf d zs s c∧Bn cf d zs c e∧Bn cf d zs e b∧∀ i j,a≤i→i < c→c≤j→j < b→le cf (zs.getD i d) (zs.getD j d):=by
 subst hc;have g1:∀ t,t < s→zs.getD t d=xs.getD t d:=fun t ht=>by rw [hr.2,Fn,if_neg (by omega),if_neg (by omega)]
 have g2:∀ t,s≤t→t < s+(e - m)→zs.getD t d=xs.getD (t+(m - s)) d:=fun t ht ht2=>by rw [hr.2,Fn,if_pos ⟨ht,ht2⟩]
 have g3:∀ t,s+(e - m)≤t→t < e→zs.getD t d=xs.getD (t - (e - m)) d:=fun t ht ht2=>by rw [hr.2,Fn,if_neg (by omega),if_pos ⟨ht,ht2⟩]
 have g4:∀ t,e≤t→zs.getD t d=xs.getD t d:=fun t ht=>by rw [hr.2,Fn,if_neg (by omega),if_neg (by omega)]
 refine ⟨fun i j q1 q2 q3=>?_,fun i j q1 q2 q3=>?_,fun i j q1 q2 q3=>?_,fun i j q1 q2 q3=>?_,fun i j q1 q2 q3 q4=>?_⟩
 ·rw [g1 i (by omega),g1 j q3];exact h1 i j q1 q2 (by omega)
 ·rw [g2 i q1 (by omega),g2 j (by omega) q3];exact h2 _ _ (by omega) (by omega) (by omega)
 ·rw [g3 i q1 (by omega),g3 j (by omega) q3];exact h1 _ _ (by omega) (by omega) (by omega)
 ·rw [g4 i q1,g4 j (by omega)];exact h2 i j (by omega) q2 q3
 ·by_cases c1:i < s
  ·rw [g1 i c1];by_cases c2:j < e
   ·rw [g3 j q3 c2];exact h1 _ _ q1 (by omega) (by omega)
   ·rw [g4 j (by omega)]
    have hA':le cf (xs.getD (s - 1) d) (xs.getD e d):=by
     rcases hA with h|h|h
     ·omega
     ·omega
     ·exact h
    exact Oqq.tr (Oqq.tr (h1.le' Oqq q1 (show i≤s - 1 by omega) (by omega)) hA') (h2.le' Oqq k3 (by omega) q4)
  ·rw [g2 i (by omega) q2];by_cases c2:j < e
   ·rw [g3 j q3 c2]
    have hB':cf (xs.getD (e - 1) d) (xs.getD s d) < 0:=by
     rcases hB with h|h|h
     ·omega
     ·omega
     ·exact h
    exact Oqq.tr (Oqq.tr (h2.le' Oqq (by omega) (show i+(m - s)≤e - 1 by omega) (by omega)) (Oqq.asy hB')) (h1.le' Oqq k1 (by omega) (by omega))
   ·rw [g4 j (by omega)];exact h2 _ _ (by omega) (by omega) q4
theorem J8 {xs ys zs a b c} (hx:∀ i j,a≤i→i < c→c≤j→j < b→le cf (xs.getD i d) (xs.getD j d)) (u1:CD d a c xs ys) (s1:Bn cf d ys a c) (u2:CD d c b ys zs) (s2:Bn cf d zs c b):Bn cf d zs a b:=by
 intro i j q1 q2 q3;by_cases c1:j < c
 ·rw [u2.out i (by omega),u2.out j (by omega)];exact s1 i j q1 q2 c1
 ·by_cases c2:c≤i
  ·exact s2 i j c2 q2 q3
  ·rw [u2.out i (by omega)];obtain ⟨i',a1,a2,e1⟩:=u1.mem i q1 (by omega);obtain ⟨j',b1,b2,e2⟩:=u2.mem j (by omega) q3;rw [e1,e2,u1.out j' (by omega)];exact hx i' j' a1 a2 b1 b2
def Ow (cf:α→α→Int) (d:α) (xs:List α) (p lo hi s r:Nat):Prop:=(∀ c,lo≤c→c < s→le cf (xs.getD c d) (xs.getD (p - c) d))∧∀ c,r≤c→c < hi→cf (xs.getD (p - c) d) (xs.getD c d) < 0
theorem aX (Oqq:Ord cf) {xs a m b p lo hi s r c} (h1:Bn cf d xs a m) (h2:Bn cf d xs m b) (h:Ow cf d xs p lo hi s r) (ha:a≤lo) (hc:c < m) (hp1:m≤p - c) (hp2:p - lo < b) (hcl:lo≤c) (hcp:c≤p) (hn:¬ cf (xs.getD (p - c) d) (xs.getD c d) < 0):Ow cf d xs p lo hi (c+1) r :=
 ⟨fun x q1 q2=>Oqq.tr (Oqq.tr (h1.le' Oqq (by omega) (show x≤c by omega) hc) hn) (h2.le' Oqq hp1 (by omega) (by omega)),h.2⟩
theorem lt_le (Oqq:Ord cf) {x y z} (h:cf x y < 0) (g:le cf y z):cf x z < 0:=Decidable.byContradiction fun n=>Oqq.tr g n h
theorem le_lt (Oqq:Ord cf) {x y z} (h:le cf x y) (g:cf y z < 0):cf x z < 0:=Decidable.byContradiction fun n=>Oqq.tr n h g
theorem Vi (Oqq:Ord cf) {xs a m b p lo hi s r c} (h1:Bn cf d xs a m) (h2:Bn cf d xs m b) (h:Ow cf d xs p lo hi s r) (ha:a≤c) (hi1:hi≤m) (hp1:m≤p - (hi - 1)) (hp2:p - c < b) (hc:c < hi) (hn:cf (xs.getD (p - c) d) (xs.getD c d) < 0):Ow cf d xs p lo hi s c :=
 ⟨h.1,fun x q1 q2=>le_lt Oqq (h2.le' Oqq (show m≤p - x by omega) (show p - x≤p - c by omega) hp2) (lt_le Oqq hn (h1.le' Oqq ha q1 (by omega)))⟩
theorem YV (Oqq:Ord cf) {xs ys a i b} (h:Bn cf d xs (a+1) b) (hr:GK d xs ys a (a+1) i) (h1:a+1≤i) (h2:i≤b) (hA:∀ t,a+1≤t→t < i→cf (xs.getD t d) (xs.getD a d) < 0) (hB:∀ t,i≤t→t < b→¬ cf (xs.getD t d) (xs.getD a d) < 0):Bn cf d ys a b:=by
 intro p q q1 q2 q3;rw [hr.2,hr.2];simp only [Fn];have e1:a+1 - a=1:=by omega
 rw [e1];by_cases c1:p < i - 1
 ·rw [if_pos (show a≤p∧p < a+(i - (a+1)) by omega)];by_cases c2:q < i - 1
  ·rw [if_pos (show a≤q∧q < a+(i - (a+1)) by omega)];exact h _ _ (by omega) (by omega) (by omega)
  ·rw [if_neg (show ¬ (a≤q∧q < a+(i - (a+1))) by omega)];by_cases c3:q < i
   ·rw [if_pos (show a+(i - (a+1))≤q∧q < i by omega),show q - (i - (a+1))=a by omega];exact Oqq.asy (hA (p+1) (by omega) (by omega))
   ·rw [if_neg (show ¬ (a+(i - (a+1))≤q∧q < i) by omega)];exact h _ _ (by omega) (by omega) q3
 ·rw [if_neg (show ¬ (a≤p∧p < a+(i - (a+1))) by omega),if_neg (show ¬ (a≤q∧q < a+(i - (a+1))) by omega),if_neg (show ¬ (a+(i - (a+1))≤q∧q < i) by omega)];by_cases c3:p < i
  ·rw [if_pos (show a+(i - (a+1))≤p∧p < i by omega),show p - (i - (a+1))=a by omega];exact hB q (by omega) q3
  ·rw [if_neg (show ¬ (a+(i - (a+1))≤p∧p < i) by omega)];exact h _ _ (by omega) q2 q3
theorem V3 (Oqq:Ord cf) {xs ys a i m} (h:Bn cf d xs a m) (hr:GK d xs ys i m (m+1)) (h1:a≤i) (h2:i≤m) (hA:∀ t,a≤t→t < i→¬ cf (xs.getD m d) (xs.getD t d) < 0) (hB:∀ t,i≤t→t < m→cf (xs.getD m d) (xs.getD t d) < 0):Bn cf d ys a (m+1):=by
 intro p q q1 q2 q3;rw [hr.2,hr.2];simp only [Fn];have e1:m+1 - m=1:=by omega
 rw [e1];by_cases c1:p < i
 ·rw [if_neg (show ¬ (i≤p∧p < i+1) by omega),if_neg (show ¬ (i+1≤p∧p < m+1) by omega)];by_cases c2:q < i
  ·rw [if_neg (show ¬ (i≤q∧q < i+1) by omega),if_neg (show ¬ (i+1≤q∧q < m+1) by omega)];exact h _ _ q1 q2 (by omega)
  ·by_cases c3:q=i
   ·rw [if_pos (show i≤q∧q < i+1 by omega),show q+(m - i)=m by omega];exact hA p q1 c1
   ·rw [if_neg (show ¬ (i≤q∧q < i+1) by omega),if_pos (show i+1≤q∧q < m+1 by omega)];exact h _ _ q1 (by omega) (by omega)
 ·rw [if_neg (show ¬ (i≤q∧q < i+1) by omega),if_pos (show i+1≤q∧q < m+1 by omega)];by_cases c3:p=i
  ·rw [if_pos (show i≤p∧p < i+1 by omega),show p+(m - i)=m by omega];exact Oqq.asy (hB (q - 1) (by omega) (by omega))
  ·rw [if_neg (show ¬ (i≤p∧p < i+1) by omega),if_pos (show i+1≤p∧p < m+1 by omega)];exact h _ _ (by omega) (by omega) (by omega)
def EQ (cf:α→α→Int) (d:α) (xs:List α) (bs lo hi:Nat):Prop:=∀ i j,lo≤i→i < j→j < hi→i / bs=j / bs→le cf (xs.getD i d) (xs.getD j d)
theorem Q2 (xs bs):EQ cf d xs bs 0 0:=fun _ _ _ _ h=>by omega
theorem Kt {xs ys bs q a b} (h:EQ cf d xs bs 0 a) (ha:a=q * bs) (hb:0 < bs) (u:CD d a b xs ys) (s:Bn cf d ys a b):EQ cf d ys bs 0 b:=fun i j h1 h2 h3 h4=>by
 by_cases c:j < a
 ·rw [u.out i (by omega),u.out j (by omega)];exact h i j h1 h2 c h4
 ·have h5:q≤j / bs:=(Nat.le_div_iff_mul_le hb).2 (by omega);have h6:q≤i / bs:=by omega
  have h7:=(Nat.le_div_iff_mul_le hb).1 h6;exact s i j (by omega) h2 h3
theorem ZR {xs ys bs a b n} (h:EQ cf d xs bs a n) (u:CD d a b xs ys) (hab:a≤b):EQ cf d ys bs b n:=fun i j h1 h2 h3 h4=>by
 rw [u.out i (by omega),u.out j (by omega)];exact h i j (by omega) h2 h3 h4
theorem HG {xs bs r lo b n} (h:EQ cf d xs bs lo n) (hb:0 < bs) (h1:lo≤r * bs) (h2:b≤r * bs+bs) (h3:b≤n):Bn cf d xs (r * bs) b:=fun i j k1 k2 k3=>by
 have e:∀ t,r * bs≤t→t < b→t / bs=r:=fun t t1 t2=>by
  refine Nat.div_eq_of_lt_le t1 ?_;rw [Nat.succ_mul];omega
 exact h i j (by omega) k2 (by omega) ((e i k1 (by omega)).trans (e j (by omega) k3).symm)
theorem W5 {xs bs q a n} (h:EQ cf d xs (2 * bs) 0 a) (g:EQ cf d xs bs a n) (hb:0 < bs) (ha:a=q * (2 * bs)) (hn:n≤a+bs):EQ cf d xs (2 * bs) 0 n:=fun i j h1 h2 h3 h4=>by
 by_cases c:j < a
 ·exact h i j h1 h2 c h4
 ·have h5:q≤j / (2 * bs):=(Nat.le_div_iff_mul_le (by omega)).2 (by omega);have h6:q≤i / (2 * bs):=by omega
  have h7:=(Nat.le_div_iff_mul_le (by omega)).1 h6;have e:a=(2 * q) * bs:=by rw [ha,Nat.mul_assoc,Nat.mul_left_comm]
  have:=HG (r:=2 * q) (b:=n) g hb (by omega) (by omega) (Nat.le_refl _);exact this i j (by omega) h2 h3
theorem ZS {xs bs n} (h:EQ cf d xs bs 0 n) (hn:n≤bs):Bn cf d xs 0 n:=fun i j h1 h2 h3=>h i j h1 h2 h3 (by rw [Nat.div_eq_of_lt (by omega),Nat.div_eq_of_lt (by omega)])
structure UE {α:Type} (cf:α→α→Int):Prop extends Ord cf where
 an:∀ x y,cf x y = - cf y x
theorem UE.lt_le (Oqq:UE cf) {x y z} (h:cf x y < 0) (g:le cf y z):cf x z < 0:=Srt.lt_le Oqq.toOrd h g
theorem UE.le_lt (Oqq:UE cf) {x y z} (h:le cf x y) (g:cf y z < 0):cf x z < 0:=Srt.le_lt Oqq.toOrd h g
end
def Nw (a b:Int×Int):Int:=if a=b then 0 else if a.1 < b.1 then -1 else if b.1 < a.1 then 1 else if a.2 < b.2 then -1 else 1
def FG (a b:Int×Int):Prop:=a.1 < b.1∨(a.1=b.1∧a.2 < b.2)
instance (a b:Int×Int):Decidable (FG a b):=by unfold FG;infer_instance
theorem f8 (a b):Nw a b < 0↔FG a b:=by
 obtain ⟨a1,a2⟩:=a;obtain ⟨b1,b2⟩:=b;unfold Nw FG;simp only [Prod.mk.injEq];split
 ·omega
 ·split
  ·omega
  ·split
   ·omega
   ·split
    ·omega
    ·omega
theorem Zg (a b):Nw a b=0↔a=b:=by
 unfold Nw;constructor
 ·intro h;split at h
  ·assumption
  ·split at h
   ·omega
   ·split at h
    ·omega
    ·split at h<;>omega
 ·rintro rfl;rw [if_pos rfl]
structure Tg (α:Type) where
 x:α
 t:Nat
section
variable {α:Type} (key:α→Int×Int)
def Fd (x y:Tg α):Prop:=FG (key x.x) (key y.x)∨(key x.x=key y.x∧x.t < y.t)
instance (x y:Tg α):Decidable (Fd key x y):=by unfold Fd;infer_instance
def Ln (x y:Tg α):Int:=if Fd key x y then -1 else if Fd key y x then 1 else 0
theorem IU (x y):Ln key x y < 0↔Fd key x y:=by
 unfold Ln;split
 ·simp [*]
 ·split
  ·simp [*]
  ·simp [*]
theorem Qp {a b c} (h:FG a b) (g:FG b c):FG a c:=by unfold FG at *;omega
theorem Iw {a}:¬ FG a a:=by unfold FG;omega
theorem So (a b):FG a b∨a=b∨FG b a:=by
 obtain ⟨a1,a2⟩:=a;obtain ⟨b1,b2⟩:=b;unfold FG;simp only [Prod.mk.injEq];omega
theorem KM {x y z} (h:Fd key x y) (g:Fd key y z):Fd key x z:=by
 unfold Fd at *;rcases h with h|⟨h1,h2⟩<;>rcases g with g|⟨g1,g2⟩
 ·exact .inl (Qp h g)
 ·exact .inl (by rw [← g1];exact h)
 ·exact .inl (by rw [h1];exact g)
 ·exact .inr ⟨h1.trans g1,by omega⟩
theorem RS {x}:¬ Fd key x x:=by
 unfold Fd;rintro (h|⟨_,h⟩)
 ·exact Iw h
 ·omega
theorem RR (x y):Fd key x y∨(key x.x=key y.x∧x.t=y.t)∨Fd key y x:=by
 unfold Fd;rcases So (key x.x) (key y.x) with h|h|h
 ·exact .inl (.inl h)
 ·by_cases h1:x.t < y.t
  ·exact .inl (.inr ⟨h,h1⟩)
  ·by_cases h2:y.t < x.t
   ·exact .inr (.inr (.inr ⟨h.symm,h2⟩))
   ·exact .inr (.inl ⟨h,by omega⟩)
 ·exact .inr (.inr (.inl h))
theorem lu:Ord (Ln key) where
 tr:=by
  intro x y z h g n;rw [IU] at *;rcases RR key x y with a|a|a
  ·exact g (KM key n a)
  ·refine g ?_;unfold Fd at n ⊢;rw [a.1,a.2] at n;exact n
  ·exact h a
 asy:=by
  intro x y h n;rw [IU] at *;exact RS key (KM key h n)
variable (d:Tg α)
def DH (xs:List (Tg α)):Prop:=∀ i j,i < j→j < xs.length→key (xs.getD i d).x=key (xs.getD j d).x→(xs.getD i d).t < (xs.getD j d).t
variable {key d}
theorem DH.lt {xs} (h:DH key d xs) {i j} (hij:i < j) (hj:j < xs.length):
  decide (Nw (key (xs.getD j d).x) (key (xs.getD i d).x) < 0)=decide (Ln key (xs.getD j d) (xs.getD i d) < 0):=by
 refine decide_eq_decide.2 ?_;rw [f8,IU];unfold Fd;constructor
 ·exact .inl
 ·rintro (g|⟨g1,g2⟩)
  ·exact g
  ·have:=h i j hij hj g1.symm;omega
theorem DH.upd {xs ys a b} (h:DH key d xs) (hb:b≤xs.length) (hu:CD d a b xs ys) (hs:Bn (Ln key) d ys a b) (hd:ys.Pairwise fun x y=>key x.x=key y.x→x.t≠y.t):DH key d ys:=by
 intro i j hij hj hk;have hl:=hu.len
 have hdj:key (ys.getD i d).x=key (ys.getD j d).x→(ys.getD i d).t≠(ys.getD j d).t:=by
  rw [List.pairwise_iff_getElem] at hd;have:=hd i j (by omega) hj hij;rwa [D3 (by omega),D3 hj]
 by_cases hi:a≤i∧i < b
 ·by_cases hj2:a≤j∧j < b
  ·have h1:=hs i j hi.1 hij hj2.2;unfold le at h1;rw [IU] at h1;have h2:=hdj hk;refine Decidable.byContradiction fun n=>h1 (.inr ⟨hk.symm,by omega⟩)
  ·obtain ⟨i',a1,a2,e⟩:=hu.mem i hi.1 hi.2;have ej:=hu.out j hj2;rw [e,ej] at hk ⊢;exact h i' j (by omega) (by omega) hk
 ·have ei:=hu.out i hi;by_cases hj2:a≤j∧j < b
  ·obtain ⟨j',a1,a2,e⟩:=hu.mem j hj2.1 hj2.2;rw [e,ei] at hk ⊢;exact h i j' (by omega) (by omega) hk
  ·rw [ei,hu.out j hj2] at hk ⊢;exact h i j hij (by omega) hk
theorem DH.dis {xs ys:List (Tg α)} (h:DH key d xs) (L:ys.Perm xs):ys.Pairwise fun x y=>key x.x=key y.x→x.t≠y.t:=by
 refine (List.Perm.pairwise_iff (fun {x y} hxy e=>fun e2=>hxy e.symm e2.symm) L.symm).1 ?_;rw [List.pairwise_iff_getElem];intro i j hi hj hij hk;have:=h i j hij hj (by rw [D3 hi,D3 hj];exact hk);rw [D3 hi,D3 hj] at this;omega
theorem DH.sort {xs ys a b} (h:DH key d xs) (hb:b≤xs.length) (hu:CD d a b xs ys) (hs:Bn (Ln key) d ys a b):DH key d ys :=
 h.upd hb hu hs (h.dis hu.perm)
theorem DH.swap {xs j} (h:DH key d xs) (hj:j+1 < xs.length) (hc:Ln key (xs.getD (j+1) d) (xs.getD j d) < 0):DH key d (Srt.swap d xs (j+1) j):=by
 have hk:key (xs.getD (j+1) d).x≠key (xs.getD j d).x:=by
  intro e;rw [IU] at hc;rcases hc with hc|hc
  ·rw [e] at hc;exact Iw hc
  ·have:=h j (j+1) (by omega) hj e.symm;omega
 intro p q hpq hq;rw [XK] at hq;rw [FH hj (by omega),FH hj (by omega)];by_cases p1:p=j
 ·rw [if_pos p1];by_cases q1:q=j+1
  ·rw [if_neg (by omega),if_pos q1];intro e;exact (hk e).elim
  ·rw [if_neg (by omega),if_neg q1];exact h (j+1) q (by omega) hq
 ·rw [if_neg p1];by_cases p2:p=j+1
  ·rw [if_pos p2,if_neg (by omega),if_neg (by omega)];exact h j q (by omega) hq
  ·rw [if_neg p2];by_cases q1:q=j
   ·rw [if_pos q1];exact h p (j+1) (by omega) hj
   ·rw [if_neg q1];by_cases q2:q=j+1
    ·rw [if_pos q2];exact h p j (by omega) (by omega)
    ·rw [if_neg q2];exact h p q hpq hq
theorem DH.swap' {xs i j} (h:DH key d xs) (hij:i+1=j) (hj:j < xs.length) (hc:Ln key (xs.getD j d) (xs.getD i d) < 0):DH key d (Srt.swap d xs j i):=by
 subst hij;exact h.swap hj hc
theorem DH.rot {xs ys a m b} (h:DH key d xs) (hr:GK d xs ys a m b) (ham:a≤m) (hmb:m≤b) (hb:b≤xs.length) (hc:∀ i j,a≤i→i < m→m≤j→j < b→Ln key (xs.getD j d) (xs.getD i d) < 0):DH key d ys:=by
 have hk:∀ i j,a≤i→i < m→m≤j→j < b→key (xs.getD j d).x≠key (xs.getD i d).x:=by
  intro i j h1 h2 h3 h4 e;have:=hc i j h1 h2 h3 h4;rw [IU] at this;rcases this with c|c
  ·rw [e] at c;exact Iw c
  ·have:=h i j (by omega) (by omega) e.symm;omega
 intro p q hpq hq;rw [hr.1.length_eq] at hq;rw [hr.2,hr.2];simp only [Fn];by_cases p1:a≤p∧p < a+(b - m)
 ·rw [if_pos p1];by_cases q1:a≤q∧q < a+(b - m)
  ·rw [if_pos q1];exact h _ _ (by omega) (by omega)
  ·rw [if_neg q1];by_cases q2:a+(b - m)≤q∧q < b
   ·rw [if_pos q2];intro e;exact (hk (q - (b - m)) (p+(m - a)) (by omega) (by omega) (by omega) (by omega) e).elim
   ·rw [if_neg q2];exact h _ _ (by omega) hq
 ·rw [if_neg p1];by_cases p2:a+(b - m)≤p∧p < b
  ·rw [if_pos p2,if_neg (show ¬ (a≤q∧q < a+(b - m)) by omega)];by_cases q2:a+(b - m)≤q∧q < b
   ·rw [if_pos q2];exact h _ _ (by omega) (by omega)
   ·rw [if_neg q2];exact h _ _ (by omega) hq
  ·rw [if_neg p2];by_cases q1:a≤q∧q < a+(b - m)
   ·rw [if_pos q1];exact h _ _ (by omega) (by omega)
   ·rw [if_neg q1];by_cases q2:a+(b - m)≤q∧q < b
    ·rw [if_pos q2];exact h _ _ (by omega) (by omega)
    ·rw [if_neg q2];exact h _ _ hpq hq
end
section
variable {α:Type} (key:α→Int×Int)
def FY (l:List α) (p:α):Nat→Nat
 | 0=>0
 | n+1=>match l[n]? with|some y=>if FG (key p) (key y) then FY l p n else n+1|none=>n+1
def JA (l:List α) (p:α):List α:=l.take (FY key l p l.length)++[p]++l.drop (FY key l p l.length)
def sortR (l:List α):List α:=l.foldl (JA key) []
theorem Xd (l:List α) (p:α):∀ n,FY key l p n≤n
 | 0=>Nat.le_refl _
 | n+1=>by
  unfold FY;split
  ·split
   ·have:=Xd l p n;omega
   ·omega
  ·omega
theorem Q3 {l:List α} {p:α}:∀ n,n≤l.length→(∀ i (h:i < l.length),FY key l p n≤i→i < n→FG (key p) (key l[i]))∧∀ i (h:i < l.length),i+1=FY key l p n→¬ FG (key p) (key l[i])
 | 0,_=>⟨fun i h h1 h2=>by omega,fun i h h1=>by simp [FY] at h1⟩
 | n+1,hn=>by
  have hx:l[n]? = some l[n]:=List.getElem?_eq_getElem (by omega);have ih:=Q3 (l:=l) (p:=p) n (by omega);by_cases hk:FG (key p) (key l[n])
  ·have e:FY key l p (n+1)=FY key l p n:=by rw [FY,hx];simp only;rw [if_pos hk]
   rw [e];refine ⟨fun i h h1 h2=>?_,ih.2⟩;by_cases hi:i < n
   ·exact ih.1 i h h1 hi
   ·obtain rfl:i=n:=by omega
    exact hk
  ·have e:FY key l p (n+1)=n+1:=by rw [FY,hx];simp only;rw [if_neg hk]
   rw [e];refine ⟨fun i h h1 h2=>by omega,fun i h h1=>?_⟩;obtain rfl:i=n:=by omega
   exact hk
theorem O6 (l p):(JA key l p).Perm (l++[p]):=by
 unfold JA;generalize FY key l p l.length=n;rw [List.append_assoc];refine (List.Perm.append_left _ List.perm_append_comm).trans ?_;rw [← List.append_assoc,List.take_append_drop]
theorem Zk {l p} (h:l.Pairwise (Fd key)) (ht:∀ y∈l,y.t < p.t):(JA (fun x:Tg α=>key x.x) l p).Pairwise (Fd key):=by
 have hs:=Q3 (fun x:Tg α=>key x.x) (l:=l) (p:=p) l.length (Nat.le_refl _);have hle:=Xd (fun x:Tg α=>key x.x) l p l.length;unfold JA;generalize FY (fun x:Tg α=>key x.x) l p l.length=n at *;rw [List.pairwise_iff_getElem] at h
 have hA:∀ i (hi:i < l.length),i < n→Fd key l[i] p:=by
  intro i hi hin;have h1:¬ FG (key p.x) (key (l[n - 1]'(by omega)).x):=hs.2 (n - 1) (by omega) (by omega)
  have h2:Fd key (l[n - 1]'(by omega)) p:=by
   rcases So (key p.x) (key (l[n - 1]'(by omega)).x) with a|a|a
   ·exact (h1 a).elim
   ·exact .inr ⟨a.symm,ht _ (List.getElem_mem _)⟩
   ·exact .inl a
  by_cases e:i=n - 1
  ·subst e;exact h2
  ·exact KM key (h i (n - 1) hi (by omega) (by omega)) h2
 have hB:∀ i (hi:i < l.length),n≤i→Fd key p l[i]:=fun i hi hin=>.inl (hs.1 i hi hin hi)
 rw [List.append_assoc,List.pairwise_append];refine ⟨?_,?_,?_⟩
 ·rw [List.pairwise_iff_getElem];intro i j hi hj hij;rw [List.getElem_take,List.getElem_take];exact h i j _ _ hij
 ·rw [List.cons_append,List.nil_append,List.pairwise_cons];refine ⟨fun y hy=>?_,?_⟩
  ·obtain ⟨i,hi,rfl⟩:=List.getElem_of_mem hy;rw [List.getElem_drop];exact hB _ _ (by omega)
  ·rw [List.pairwise_iff_getElem];intro i j hi hj hij;rw [List.getElem_drop,List.getElem_drop];exact h _ _ _ _ (by omega)
 ·intro x hx y hy;obtain ⟨i,hi,rfl⟩:=List.getElem_of_mem hx;rw [List.getElem_take];have hi2:i < n∧i < l.length:=by rw [List.length_take] at hi;omega
  rcases List.mem_cons.1 hy with rfl|hy
  ·exact hA i hi2.2 hi2.1
  ·obtain ⟨j,hj,rfl⟩:=List.getElem_of_mem (show y∈l.drop n from hy);rw [List.getElem_drop];exact KM key (hA i hi2.2 hi2.1) (hB _ _ (by omega))
def tagF (α:Type):List α→Nat→List (Tg α)
 | [],_=>[]
 | x::r,n=>⟨x,n⟩::tagF α r (n+1)
theorem SP (l:List (Tg α)) (p:Tg α):∀ n,FY (fun x:Tg α=>key x.x) l p n=FY key (l.map (·.x)) p.x n
 | 0=>rfl
 | n+1=>by
  rw [FY,FY,List.getElem?_map]
  cases l[n]? with
  | none=>rfl
  | some y=>simp only [Option.map_some];rw [SP l p n]
theorem Zl (l p):(JA (fun x:Tg α=>key x.x) l p).map (·.x)=JA key (l.map (·.x)) p.x:=by
 unfold JA;rw [SP,List.length_map,List.map_append,List.map_append,List.map_take,List.map_drop];rfl
theorem Ji:∀ (ps:List α) (n:Nat) (acc:List (Tg α)),acc.Pairwise (Fd key)→(∀ y∈acc,y.t < n) →
  ∃ zs:List (Tg α),zs.Perm (acc++tagF α ps n)∧zs.Pairwise (Fd key)∧zs.map (·.x)=ps.foldl (JA key) (acc.map (·.x))
 | [],n,acc,h,_=>⟨acc,by simp [tagF],h,rfl⟩
 | x::r,n,acc,h,ht=>by
  have h1:=Zk key (p:=⟨x,n⟩) h ht;have h2:=O6 (fun x:Tg α=>key x.x) acc ⟨x,n⟩
  obtain ⟨zs,a,b,c⟩:=Ji r (n+1) _ h1 (fun y hy=>by
   rcases List.mem_append.1 (h2.mem_iff.1 hy) with hy|hy
   ·have:=ht y hy;omega
   ·obtain rfl:=List.mem_singleton.1 hy;exact Nat.lt_succ_self n)
  refine ⟨zs,a.trans ?_,b,?_⟩
  ·rw [tagF,show acc++⟨x,n⟩::tagF α r (n+1)=(acc++[⟨x,n⟩])++tagF α r (n+1) by simp];exact h2.append_right _
  ·rw [c,Zl];rfl
theorem tagF_map:∀ (ps:List α) (n:Nat),(tagF α ps n).map (·.x)=ps
 | [],_=>rfl
 | x::r,n=>by rw [tagF,List.map_cons,tagF_map r]
theorem U6:∀ (ps:List α) (n:Nat),(tagF α ps n).Pairwise (fun x y=>x.t < y.t)∧∀ y∈tagF α ps n,n≤y.t
 | [],_=>⟨.nil,fun y hy=>by cases hy⟩
 | x::r,n=>by
  have ih:=U6 r (n+1);refine ⟨List.pairwise_cons.2 ⟨fun y hy=>by have:=ih.2 y hy;show n < y.t;omega,ih.1⟩,fun y hy=>?_⟩;rcases List.mem_cons.1 hy with rfl|hy
  ·exact Nat.le_refl _
  ·have:=ih.2 y hy;omega
theorem tagF_stb (d ps):DH key d (tagF α ps 0):=by
 intro i j hij hj _;have:=(List.pairwise_iff_getElem.1 (U6 ps 0).1) i j (by omega) hj hij;rwa [D3 (by omega),D3 hj]
theorem Pr {β:Type} {R:β→β→Prop} (tr:∀ {x y z},R x y→R y z→R x z) (ir:∀ x,¬ R x x):∀ {xs ys:List β},xs.Perm ys→xs.Pairwise R→ys.Pairwise R→xs=ys
 | [],ys,h,_,_=>(List.nil_perm.1 h).symm
 | x::r,[],h,_,_=>absurd h.length_eq (by simp)
 | x::r,y::s,h,hx,hy=>by
  have hxy:x=y:=by
   rcases List.mem_cons.1 (h.mem_iff.1 List.mem_cons_self) with e|h1
   ·exact e
   ·rcases List.mem_cons.1 (h.mem_iff.2 (List.mem_cons_self (a:=y) (l:=s))) with e|h2
    ·exact e.symm
    ·exact (ir x (tr ((List.pairwise_cons.1 hx).1 y h2) ((List.pairwise_cons.1 hy).1 x h1))).elim
  subst hxy;rw [Pr (R:=R) tr ir (List.Perm.cons_inv h) (List.pairwise_cons.1 hx).2 (List.pairwise_cons.1 hy).2]
theorem sort_eq {d ps ys} (L:ys.Perm (tagF α ps 0)) (hs:Bn (Ln key) d ys 0 ys.length):ys.map (·.x)=sortR key ps:=by
 obtain ⟨zs,a,b,c⟩:=Ji key ps 0 [] .nil (fun y hy=>by cases hy);have hd:=(tagF_stb key d ps).dis L
 have hy:ys.Pairwise (Fd key):=by
  rw [List.pairwise_iff_getElem] at hd ⊢;intro i j hi hj hij;have h1:=hs i j (Nat.zero_le _) hij hj;unfold le at h1;rw [D3 hi,D3 hj,IU] at h1;rcases RR key ys[i] ys[j] with e|e|e
  ·exact e
  ·exact (hd i j hi hj hij e.1 e.2).elim
  ·exact (h1 e).elim
 have e:ys=zs:=Pr (R:=Fd key) (KM key) (fun x=>RS key) (L.trans (by simpa using a.symm)) hy b;rw [e,c];rfl
end
end Go.Srt
