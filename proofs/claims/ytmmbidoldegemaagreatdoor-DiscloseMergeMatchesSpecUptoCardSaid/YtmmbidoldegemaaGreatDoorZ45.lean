/- Part 46 of the proof that the law of the last part holds; no conditions. -/
import Derived.Test.YtmmbidoldegemaaGreatDoorZ19
import Derived.Test.YtmmbidoldegemaaGreatDoorZ42
set_option linter.unusedSimpArgs false
set_option linter.unusedVariables false
set_option maxRecDepth 8000
set_option maxHeartbeats 8000000
namespace Go.Proofs.YtmmbidoldegemaaGreatDoor
open Go.RowKit Go.Sl
set_option maxRecDepth 20000 in
theorem Qg {S M} (w:World) (hst:St S M w) (va vb:Value) (xs:List Hd) (ha:RSl S va xs) (hb:RSl S vb xs) (hn:xs.length≤1000000) :
  Ad Tryz.prog 32 [va,vb] w fun v w'=>v=.bool true∧St S M w':=by
 unfold Ad;have oa:=Ia ha;go_enter Tryz.func32,Tryz.ntmps32;repeat' (first|(with_reducible refine kB ?_;refine Ag hst (CK rfl rfl) ?_<;>(try refine nY ?_))|(apply gK ();go_step)|apply sY ()|fail)
 go_loopw [5] (fun u5 wr=>∃ i:Nat,i≤xs.length∧u5=.int .i64 (i:Int)∧St S M wr) (fun v _=>xs.length - (intOf v).toNat)
 case atStart=>exact ⟨0,Nat.zero_le _,rfl,hst⟩
 case round =>
  clear hst;obtain ⟨i,hi,rfl,hst⟩:=hrel;by_cases hlt:i < xs.length
  ·have ka:=oa _ (List.getElem_mem hlt);have hdc:decide (xs[i]=xs[i])=true:=decide_eq_true rfl;repeat' ((apply Z6 ());first|(apply gK ();go_step)|apply sY ()|fail)
   refine AF hst kr ?_;clear hst;intro ops;(try refine nY ?_);refine td 0 rfl ?_;refine td 1 rfl ?_;refine tx 2 rfl (Ao Ab Ak rfl Aa Aa Af Af) ?_;rintro v hp;replace hp:=iN hp;refine tq 3 rfl (by exact Bp Ab Ak Aa Aa rfl) ?_;refine td 4 rfl ?_;refine td 5 rfl ?_;refine tx 6 rfl (Ao Ab Ak rfl Aa Aa Af Af) ?_;rintro v hp;replace hp:=iN hp;refine tq 7 rfl (by exact Bp Ab Ak Aa Aa rfl) ?_;refine tq 8 rfl (Dc rfl rfl (CS ka) (CS ka) Aa Aa Aa hdc) ?_;refine AK kr ?_;clear ops;intro w hst;repeat' (first|(apply gK ();go_step)|fail)
   apply gS ()
  apply g6 ()
set_option maxRecDepth 20000 in
theorem OL {S M} (w:World) (hst:St S M w) (va vb:Value) (xs:List Pn) (ha:RSl S va xs) (hb:RSl S vb xs) (hn:xs.length≤1000000) (hm:∀ p∈xs,p.2.2.2.1.length≤1000000) :
  Ad Tryz.prog 34 [va,vb] w fun v w'=>v=.bool true∧St S M w':=by
 unfold Ad;go_enter Tryz.func34,Tryz.ntmps34;repeat' (first|(with_reducible refine kB ?_;refine Ag hst (CK rfl rfl) ?_<;>(try refine nY ?_))|(apply gK ();go_step)|apply sY ()|fail)
 go_loopw [5,6] (fun u5 _ wr=>∃ i:Nat,i≤xs.length∧u5=.int .i64 (i:Int)∧St S M wr) (fun v _ _=>xs.length - (intOf v).toNat)
 case atStart=>exact ⟨0,Nat.zero_le _,rfl,hst⟩
 case round =>
  clear hst;obtain ⟨i,hi,rfl,hst⟩:=hrel;by_cases hlt:i < xs.length
  ·have hmi:=hm _ (List.getElem_mem hlt);repeat' ((apply Z6 ());first|(apply gK ();go_step)|apply sY ()|fail)
   refine AN hst kr ?_;clear hst;intro w hst;have hSS:=Bk hst;(try refine nY ?_);refine pd 0 rfl ?_;refine pd 1 rfl ?_;refine px 2 rfl (Ao Ab ha rfl Aa Aa Af Af) ?_;rintro v2 hp2;replace hp2:=iN hp2;refine px 3 rfl (Ah Ab hp2 Aa Aa rfl) ?_;rintro v3 hp3;refine px 4 rfl (Am Ab hp3 Aa) ?_;rintro v4 ⟨rfl,hI4⟩;refine pd 5 rfl ?_;refine pd 6 rfl ?_;refine px 7 rfl (Ao Ab hb rfl Aa Aa Af Af) ?_;rintro v7 hp7;replace hp7:=iN hp7;refine px 8 rfl (Ah Ab hp7 Aa Aa rfl) ?_;rintro v8 hp8;refine px 9 rfl (Am Ab hp8 Aa) ?_;rintro v9 ⟨rfl,hI9⟩;refine pt 10 rfl (CK rfl rfl) ?_;refine pd 11 rfl ?_;refine pd 12 rfl ?_;refine pd 13 rfl ?_;refine px 14 rfl (Ao Ab ha rfl Aa Aa Af Af) ?_;rintro v14 hp14;replace hp14:=iN hp14;refine px 15 rfl (Ah Ab hp14 Aa Aa rfl) ?_;rintro v15 hp15;refine px 16 rfl (Am Ab hp15 Aa) ?_;rintro v16 ⟨rfl,hI16⟩;refine pd 17 rfl ?_;refine pd 18 rfl ?_;refine px 19 rfl (Ao Ab hb rfl Aa Aa Af Af) ?_;rintro v19 hp19;replace hp19:=iN hp19;refine px 20 rfl (Ah Ab hp19 Aa Aa rfl) ?_;rintro v20 hp20;refine px 21 rfl (Am Ab hp20 Aa) ?_;rintro v21 ⟨rfl,hI21⟩;refine pt 22 rfl (CK rfl rfl) ?_;refine pd 23 rfl ?_;refine pd 24 rfl ?_;refine pd 25 rfl ?_;refine pd 26 rfl ?_;refine px 27 rfl (Ao Ab ha rfl Aa Aa Af Af) ?_;rintro v27 hp27;replace hp27:=iN hp27;refine px 28 rfl (Ah Ab hp27 Aa Aa rfl) ?_;rintro v28 hp28;refine px 29 rfl (Am Ab hp28 Aa) ?_;rintro v29 ⟨rfl,hI29⟩;refine pd 30 rfl ?_;refine pd 31 rfl ?_
   refine px 32 rfl (Ao Ab hb rfl Aa Aa Af Af) ?_;rintro v32 hp32;replace hp32:=iN hp32;refine px 33 rfl (Ah Ab hp32 Aa Aa rfl) ?_;rintro v33 hp33;refine px 34 rfl (Am Ab hp33 Aa) ?_;rintro v34 ⟨rfl,hI34⟩;refine pt 35 rfl (CK rfl rfl) ?_;refine pd 36 rfl ?_;refine pd 37 rfl ?_;refine pd 38 rfl ?_;refine pd 39 rfl ?_;refine px 40 rfl (Ao Ab ha rfl Aa Aa Af Af) ?_;rintro v40 hp40;replace hp40:=iN hp40;refine px 41 rfl (Ah Ab hp40 Aa Aa rfl) ?_;rintro v41 hp41;refine px 42 rfl (Ae Ab hp41 Aa) ?_;rintro v42 ⟨hv42,hv421⟩;refine pd 43 rfl ?_;refine pd 44 rfl ?_;refine pd 45 rfl ?_;refine px 46 rfl (Ao Ab hb rfl Aa Aa Af Af) ?_;rintro v46 hp46;replace hp46:=iN hp46;refine px 47 rfl (Ah Ab hp46 Aa Aa rfl) ?_;rintro v47 hp47;refine px 48 rfl (Ae Ab hp47 Aa) ?_;rintro v48 ⟨hv48,hv481⟩;refine pd 49 rfl ?_;refine pt 50 rfl (CK rfl rfl) ?_;refine pd 51 rfl ?_;refine Az kr ?_;repeat' (first|(apply gK ();go_step)|fail)
   go_loopw [6] (fun u6 wr=>∃ j:Nat,j≤((xs[i]).2.2.2.1).length∧u6=.int .i64 (j:Int)∧St S M wr) (fun v _=>((xs[i]).2.2.2.1).length - (intOf v).toNat)
   case atStart=>exact ⟨0,Nat.zero_le _,rfl,hst⟩
   case round =>
    clear hst;obtain ⟨j,hj,rfl,hst⟩:=hrel;by_cases hjt:j < ((xs[i]).2.2.2.1).length
    ·have hdc:decide ((xs[i]).2.2.2.1[j]=(xs[i]).2.2.2.1[j])=true:=decide_eq_true rfl;repeat' ((apply MO ());first|(apply gK ();go_step)|(with_reducible refine kL ?_;refine An hst (Ae (y:=(xs[i]).2.2.2.1) Ab Ak Aa) ?_;rintro vf ⟨hvf,hvf1⟩<;>(try refine nY ?_))|apply sY ()|(apply sJ ();intro v hp)|fail)
     refine AN hst kr ?_;clear hst;intro w hst;have hSS:=Bk hst;(try refine nY ?_);refine pd 0 rfl ?_;refine pd 1 rfl ?_;refine px 2 rfl (Ao Ab ha rfl Aa Aa Af Af) ?_;rintro v2 hp2;replace hp2:=iN hp2;refine px 3 rfl (Ah Ab hp2 Aa Aa rfl) ?_;rintro v3 hp3;refine px 4 rfl (Ae Ab hp3 Aa) ?_;rintro v4 ⟨hv4,hv41⟩;replace hv4:RSl S v4 (xs[i]).2.2.2.1:=hv4;refine pd 5 rfl ?_;refine px 6 rfl (Ao Ab hv4 rfl Aa Aa Af Af) ?_;rintro v6 hp6;replace hp6:=iN hp6;refine px 7 rfl (Av Ab hp6 Aa) ?_;rintro v7 ⟨c7,rfl,hc7⟩;refine pd 8 rfl ?_;refine pd 9 rfl ?_;refine px 10 rfl (Ao Ab hb rfl Aa Aa Af Af) ?_;rintro v10 hp10;replace hp10:=iN hp10;refine px 11 rfl (Ah Ab hp10 Aa Aa rfl) ?_;rintro v11 hp11;refine px 12 rfl (Ae Ab hp11 Aa) ?_;rintro v12 ⟨hv12,hv121⟩;replace hv12:RSl S v12 (xs[i]).2.2.2.1:=hv12;refine pd 13 rfl ?_;refine px 14 rfl (Ao Ab hv12 rfl Aa Aa Af Af) ?_;rintro v14 hp14;replace hp14:=iN hp14;refine px 15 rfl (Av Ab hp14 Aa) ?_;rintro v15 ⟨c15,rfl,hc15⟩;refine pt 16 rfl (Dc rfl rfl hc7 hc15 Aa Aa Aa hdc) ?_;apply eO ()
    ·obtain rfl:j=((xs[i]).2.2.2.1).length:=by omega
     repeat' (first|(apply gK ();go_step)|(with_reducible refine kL ?_;refine An hst (Ae (y:=(xs[i]).2.2.2.1) Ab Ak Aa) ?_;rintro vf ⟨hvf,hvf1⟩<;>(try refine nY ?_))|apply sY ()|(apply sJ ();intro v hp)|fail)
     apply gS ()
  apply g6 ()
set_option maxRecDepth 20000 in
theorem Qf {S M} (w:World) (hst:St S M w) (va vb:Value) (xs:List (List Int)) (ha:RSl S va xs) (hb:RSl S vb xs) (hn:xs.length≤1000000) (hm:∀ p∈xs,p.length≤1000000) :
  Ad Tryz.prog 21 [va,vb] w fun v w'=>v=.bool true∧St S M w':=by
 unfold Ad;go_enter Tryz.func21,Tryz.ntmps21;repeat' (first|(with_reducible refine kB ?_;refine Ag hst (CK rfl rfl) ?_<;>(try refine nY ?_))|(apply gK ();go_step)|apply sY ()|fail)
 go_loopw [5,6] (fun u5 _ wr=>∃ i:Nat,i≤xs.length∧u5=.int .i64 (i:Int)∧St S M wr) (fun v _ _=>xs.length - (intOf v).toNat)
 case atStart=>exact ⟨0,Nat.zero_le _,rfl,hst⟩
 case round =>
  clear hst;obtain ⟨i,hi,rfl,hst⟩:=hrel;by_cases hlt:i < xs.length
  ·have hmi:=hm _ (List.getElem_mem hlt);repeat' ((apply Z6 ());first|(apply gK ();go_step)|apply sY ()|fail)
   refine AN hst kr ?_;clear hst;intro w hst;have hSS:=Bk hst;(try refine nY ?_);refine pd 0 rfl ?_;refine pd 1 rfl ?_;refine px 2 rfl (Ao Ab ha rfl Aa Aa Af Af) ?_;rintro v2 hp2;replace hp2:=iN hp2;refine px 3 rfl (Ae Ab hp2 Aa) ?_;rintro v3 ⟨hv3,hv31⟩;replace hv3:RSl S v3 xs[i]:=hv3;refine pd 4 rfl ?_;refine pd 5 rfl ?_;refine pd 6 rfl ?_;refine px 7 rfl (Ao Ab hb rfl Aa Aa Af Af) ?_;rintro v7 hp7;replace hp7:=iN hp7;refine px 8 rfl (Ae Ab hp7 Aa) ?_;rintro v8 ⟨hv8,hv81⟩;replace hv8:RSl S v8 xs[i]:=hv8;refine pd 9 rfl ?_;refine pt 10 rfl (CK rfl rfl) ?_;refine Az kr ?_;repeat' (first|(apply gK ();go_step)|fail)
   go_loopw [6] (fun u6 wr=>∃ j:Nat,j≤(xs[i]).length∧u6=.int .i64 (j:Int)∧St S M wr) (fun v _=>(xs[i]).length - (intOf v).toNat)
   case atStart=>exact ⟨0,Nat.zero_le _,rfl,hst⟩
   case round =>
    clear hst;obtain ⟨j,hj,rfl,hst⟩:=hrel;by_cases hjt:j < (xs[i]).length
    ·repeat' ((apply MO ());first|(apply gK ();go_step)|(with_reducible refine kL ?_;refine An hst (Ae (y:=xs[i]) Ab Ak Aa) ?_;rintro vf ⟨hvf,hvf1⟩<;>(try refine nY ?_))|apply sY ()|(apply sJ ();intro v hp)|fail)
     refine AN hst kr ?_;clear hst;intro w hst;have hSS:=Bk hst;(try refine nY ?_);refine pd 0 rfl ?_;refine pd 1 rfl ?_;refine px 2 rfl (Ao Ab ha rfl Aa Aa Af Af) ?_;rintro v2 hp2;replace hp2:=iN hp2;refine px 3 rfl (Ae Ab hp2 Aa) ?_;rintro v3 ⟨hv3,hv31⟩;replace hv3:RSl S v3 xs[i]:=hv3;refine pd 4 rfl ?_;refine px 5 rfl (Ao Ab hv3 rfl Aa Aa Af Af) ?_;rintro v5 hp5;replace hp5:=iN hp5;refine px 6 rfl (Am Ab hp5 Aa) ?_;rintro v6 ⟨rfl,hI6⟩;refine pd 7 rfl ?_;refine pd 8 rfl ?_;refine px 9 rfl (Ao Ab hb rfl Aa Aa Af Af) ?_;rintro v9 hp9;replace hp9:=iN hp9;refine px 10 rfl (Ae Ab hp9 Aa) ?_;rintro v10 ⟨hv10,hv101⟩;replace hv10:RSl S v10 xs[i]:=hv10;refine pd 11 rfl ?_;refine px 12 rfl (Ao Ab hv10 rfl Aa Aa Af Af) ?_;rintro v12 hp12;replace hp12:=iN hp12;refine px 13 rfl (Am Ab hp12 Aa) ?_;rintro v13 ⟨rfl,hI13⟩;refine pt 14 rfl (CK rfl rfl) ?_;apply eO ()
    ·obtain rfl:j=(xs[i]).length:=by omega
     repeat' (first|(apply gK ();go_step)|(with_reducible refine kL ?_;refine An hst (Ae (y:=xs[i]) Ab Ak Aa) ?_;rintro vf ⟨hvf,hvf1⟩<;>(try refine nY ?_))|apply sY ()|(apply sJ ();intro v hp)|fail)
     apply gS ()
  apply g6 ()
def F8 (t:Int):Pn:=(0,0,t,Be (GO AY) 0,())
def Ce (t:Int):Br:=(FN,[AE AY],[F8 t],())
def JQ:Br:=(FN,[AE AY],[],())
theorem ga:Fs [AY] [] [(0,0)]=some [F8 2]:=by simp [Fs,AY,F8]
theorem eL:CJ [AE AY] [] [F8 2]=0:=YQ (log:=[AY]) (by decide) [(0,0)] [] _ ga
theorem lB:CJ [AE AY] [] []=0:=rfl
theorem k9:GO AY=[BK 0 2,BK 1 0]:=rfl
theorem bZ (a b:Dg):B0 [a,b]=FA (Dk a) (Dk b):=rfl
theorem ZI (a b:Dg):Be [a,b] 0=[Dk b]:=rfl
set_option maxRecDepth 1000000 in
theorem iM:B7 (AE AY).2.2.2.1 (AE AY).2.2.1.toNat 0 (BK 0 1) (Be (GO AY) 0)=false:=by
 have e:FA (Dk (BK 0 1)) (Dk (BK 1 0))≠FA (Dk (BK 0 2)) (Dk (BK 1 0)):=by
  have h:(GC 10 [Bm 0,Bm 1] fun a=>GC 10 [Bm 1,Bm 0] fun b=>GC 10 [Bm 0,Bm 2] fun c=>GC 1 [a] fun a=>GC 1 [b] fun b=>GC 1 [c] fun c=>GC 2 [a,b] fun x=>GC 2 [c,b] fun y=>decide (x≠y))=true:=by decide +kernel
  simp only [Yg] at h;intro e;have e':=congrArg Ge.l e;simp only [FA,Dk,BK] at e';exact of_decide_eq_true h e'
 have r:(AE AY).2.2.2.1=B0 (GO AY):=rfl;have n3:(AE AY).2.2.1.toNat=2:=rfl;rw [r,n3,k9,bZ,ZI];generalize BK 0 1=x at *;generalize BK 1 0=y at *;generalize BK 0 2=z at *;have h:IB (Cy 2 0) x [Dk y]=FA (Dk x) (Dk y):=rfl;rw [B7,h,decide_eq_false e];rfl
theorem eK:CJ [AE AY] [] [F8 1]=16:=by
 have h0:([AE AY]:List Hd)[(0:Int).toNat]? = some (AE AY):=rfl;have h3:(AE AY).2.2.1=2:=rfl;rw [CJ,if_neg (by simp [F8])];show (match ([AE AY]:List Hd)[(0:Int).toNat]? with|none=>1|some h=>_)=16;rw [h0];show (if (0:Int) < 0∨(AE AY).2.2.1≤0 then 1 else if B7 (AE AY).2.2.2.1 (AE AY).2.2.1.toNat (0:Int).toNat (BK 0 1) (Be (GO AY) 0) then _ else 16)=16;rw [if_neg (by rw [h3];decide)];have:=iM;rw [show (0:Int).toNat=0 from rfl,this];rfl
theorem jO:(Ce 2).2.1.any Dr=false:=rfl
theorem je:KP [AE AY] [F8 2]=[[2,-1]]:=rfl
theorem jf:KP [AE AY] []=[[-1,-1]]:=rfl
theorem jj:Dv (Bx Ci.2.1 Ci.2.2.1 Ci.2.2.2.1) [2,-1]=some [2,0]:=by decide +kernel
theorem jk:Dv (Bx Ci.2.1 Ci.2.2.1 Ci.2.2.2.1) [-1,-1]=some [-1,-1]:=by decide +kernel
theorem lc:Fu (Ce 2) [Ci]=([[2,0]],0):=by
 unfold Fu;rw [if_neg (by rw [jO];simp [Ce])];show (if CJ [AE AY] [] [F8 2]≠0 then _ else U5 (F9 [Ci] [AE AY] (KP [AE AY] [F8 2]) []))=_;rw [if_neg (by rw [eL];simp),je,Nl (by decide) jj,if_neg (by decide),Pk];rfl
theorem ld:Fu JQ [Ci]=([[-1,-1]],0):=by
 unfold Fu;rw [if_neg (by rw [show JQ.2.1.any Dr=false from rfl];simp [JQ])];show (if CJ [AE AY] [] []≠0 then _ else U5 (F9 [Ci] [AE AY] (KP [AE AY] []) []))=_;rw [if_neg (by rw [lB];simp),jf,Nl (by decide) jk,if_neg (by decide),Pk];rfl
theorem k8:Dp (Ce 2) (Ce 1)=(D9,15):=by
 unfold Dp;rw [if_pos ⟨rfl,rfl⟩];rfl
theorem ja:H3 (Ce 2) [(0,0)]=Ce 2:=rfl
theorem jb:H3 (Ce 2) []=JQ:=rfl
theorem fp (r:Rg) (h:Dn FN [AE AY]=r):Jg (Ce 2) r=0:=by
 unfold Jg;show (if CJ [AE AY] [] [F8 2]≠0 then _ else if Dn FN [AE AY]=r then 0 else 16)=0;rw [if_neg (by rw [eL];simp),if_pos h]
theorem fo (r:Rg) (h:Dn FN [AE AY]≠r):Jg (Ce 2) r=16:=by
 unfold Jg;show (if CJ [AE AY] [] [F8 2]≠0 then _ else if Dn FN [AE AY]=r then 0 else 16)=16;rw [if_neg (by rw [eL];simp),if_neg h]
theorem fm (r:Rg):Jg (Ce 1) r=16:=by
 unfold Jg;show (if CJ [AE AY] [] [F8 1]≠0 then ((CJ [AE AY] [] [F8 1]:Nat):Int) else _)=16;rw [if_pos (by rw [eK];simp),eK];rfl
end Go.Proofs.YtmmbidoldegemaaGreatDoor
namespace Go.Proofs.YtmmbidoldegemaaGreatDoor
open Go.RowKit Go.Sl Go.Srt
set_option maxRecDepth 20000 in
theorem Uq {S M} (w:World) (hst:St S M w) (ca cb:List Value) (x y:Br) (HE:Hid (x=y)) (hA:Rep.R S ca x) (hB:Rep.R S cb y) (hh:x.2.1.length≤1000000) (hn:x.2.2.1.length≤1000000) (hm:∀ p∈x.2.2.1,p.2.2.2.1.length≤1000000) :
  Ad Tryz.prog 12 [.agg ca.toArray,.agg cb.toArray] w fun v w'=>v=.bool true∧St S M w':=by
 unfold Ad;have hx16:x.1.l.length=16:=hA.2.1.1;have hy16:y.1.l.length=16:=hB.2.1.1;have hone1:=Rep.one hA;have hone2:=Rep.one hB;go_enter Tryz.func12,Tryz.ntmps12;repeat' ((apply Z0 ());first|(apply gK ();go_step)|fail)
 refine wp_region_lit ?_;refine Fi (cs:=ca) hst Ab rfl ?_;clear hst;intro b1 w hst;(try refine nY ?_);refine Fi (cs:=cb) hst Ab rfl ?_;clear hst;intro b2 w hst;(try refine nY ?_);repeat' ((apply Z1 ());first|(apply gK ();go_step)|fail)
 obtain ⟨S1,hS1,hst1,hpy⟩:=AC (α:=Br) hst hB (Rep.len hB);obtain ⟨S2,hS2,hst2,hpx⟩:=AC (α:=Br) hst1 (Rep.mono hS1 hA) (Rep.len hA);clear hst hst1;have hst:=hst2;clear hst2;replace hpy:=Pt.mono hS2 hpy;generalize Value.pointer (some ⟨b1,0,none⟩)=pX at *;generalize Value.pointer (some ⟨b2,0,none⟩)=pY at *;have hle2:=hS1.trans hS2;clear hA hB hS1 hS2;have hz1:decide (x.1=y.1)=true:=decide_eq_true (by rw [HE.out]);have cH:=fun {M:List Chunk} (w:World) (hst:St S2 M w) (va vb:Value) (ha:RSl S2 va x.2.1) (hb:RSl S2 vb y.2.1)=>Qg w hst va vb x.2.1 ha (by rw [HE.out];exact hb) hh
 have cP:=fun {M:List Chunk} (w:World) (hst:St S2 M w) (va vb:Value) (ha:RSl S2 va x.2.2.1) (hb:RSl S2 vb y.2.2.1)=>OL w hst va vb x.2.2.1 ha (by rw [HE.out];exact hb) hn hm
 repeat' (first|(with_reducible refine kB ?_;refine Ag hst (Kb rfl rfl (Bi hx16) (Bi hy16) Aa Aa inferInstance hz1) ?_<;>(try refine nY ?_))|apply sG ()|(apply gK ();go_step)|(with_reducible refine kL ?_;refine An hst (Ae (y:=x.2.1) Ab Ak Aa) ?_;rintro va ⟨hva,hva1⟩<;>(try refine nY ?_))|(with_reducible refine kL ?_;refine An hst (Ae (y:=y.2.1) Ab Ak Aa) ?_;rintro vb ⟨hvb,hvb1⟩<;>(try refine nY ?_))|(with_reducible refine kL ?_;refine An hst (Ae (y:=x.2.2.1) Ab Ak Aa) ?_;rintro vc ⟨hvc,hvc1⟩<;>(try refine nY ?_))|(with_reducible refine kL ?_;refine An hst (Ae (y:=y.2.2.1) Ab Ak Aa) ?_;rintro vd ⟨hvd,hvd1⟩<;>(try refine nY ?_))|(apply kc ();refine sc (cH _ hst va vb hva hvb) ?_;clear hst;rintro v w ⟨rfl,hst⟩)|(apply kc ();refine sc (cP _ hst vc vd hvc hvd) ?_;clear hst;rintro v w ⟨rfl,hst⟩)|apply sP ()|(apply sJ ();intro v hp)|fail)
 go_ret;exact ⟨_,rfl,rfl,hst.weaken hle2⟩
theorem OM {S M} (w:World) (hst:St S M w) (ca cb:List Value) (x:Br) (hA:Rep.R S ca x) (hB:Rep.R S cb x) (hh:x.2.1.length≤1000000) (hn:x.2.2.1.length≤1000000) (hm:∀ p∈x.2.2.1,p.2.2.2.1.length≤1000000) :
  Ad Tryz.prog 12 [.agg ca.toArray,.agg cb.toArray] w fun v w'=>v=.bool true∧St S M w':=Uq w hst ca cb x x (Lib.hid rfl) hA hB hh hn hm
set_option maxRecDepth 20000 in
theorem Rr {S M} (w:World) (hst:St S M w) (ca:List Value) (x:Br) (hA:Rep.R S ca x) :
  Ad Tryz.prog 8 [.agg ca.toArray] w fun v w'=>St S M w'∧∃ c,v=.bool c∧(c=true→x.2.1.length≤8∧x.2.2.1.length≤40∧∀ p∈x.2.2.1,p.2.2.2.1.length≤10):=by
 unfold Ad;have hone1:=Rep.one hA;go_enter Tryz.func8,Tryz.ntmps8;repeat' ((apply Z1 ());first|(apply gK ();go_step)|(apply sC ();clear hst;intro bx w hst)|fail)
 obtain ⟨S1,hS1,hst1,hpx⟩:=AC (α:=Br) hst hA (Rep.len hA);clear hst;have hst:=hst1;clear hst1;generalize Value.pointer (some ⟨_,0,none⟩)=pX at *;clear hA;repeat' (first|(apply gK ();go_step)|fail)
 go_loopw [3] (fun u3 wr=>∃ i:Nat,i≤x.2.2.1.length∧i≤40∧u3=.int .i64 (i:Int)∧Hid (∀ p∈x.2.2.1.take i,p.2.2.2.1.length≤10)∧St S1 M wr) (fun v _=>x.2.2.1.length - (intOf v).toNat)
 case atStart=>exact ⟨0,Nat.zero_le _,by omega,rfl,Lib.hid (fun p hp=>(by simp at hp)),hst⟩
 case round =>
  clear hst;obtain ⟨i,hi,hi2,rfl,HK,hst⟩:=hrel;by_cases hlt:i < x.2.2.1.length
  ·by_cases h40:i < 40
   ·have hsn:=Lib.hid (List.take_succ_eq_append_getElem hlt);by_cases hz:(x.2.2.1[i]).2.2.2.1.length≤10
    ·have HN:Hid (∀ p∈x.2.2.1.take (i+1),p.2.2.2.1.length≤10):=Lib.hid (fun p hp=>by
      rw [hsn.out,List.mem_append,List.mem_singleton] at hp;rcases hp with hp|rfl
      ·exact HK.out p hp
      ·exact hz)
     have hz2:decide ((((x.2.2.1[i]).2.2.2.1.length:Nat):Int) > 10)=false:=by rw [decide_eq_false_iff_not];omega
     clear hz HK hsn;repeat' (first|apply sK ()|apply sG ()|(apply gK ();go_step)|(with_reducible refine kL ?_;refine An hst (Ae (y:=x.2.2.1) Ab Ak Aa) ?_;rintro va ⟨hva,hva1⟩<;>(try refine nY ?_))|(with_reducible refine kL ?_;refine An hst (Ae (y:=(x.2.2.1[i]).2.2.2.1) Ab Ak Aa) ?_;rintro vb ⟨hvb,hvb1⟩<;>(try refine nY ?_))|apply sY ()|(apply sJ ();intro v hp)|fail)
     go_roundw
     case rel=>exact ⟨i+1,by omega,by omega,by go_num,HN,hst⟩
     case measure=>simp [intOf]<;>omega
    ·have hz2:decide ((((x.2.2.1[i]).2.2.2.1.length:Nat):Int) > 10)=true:=by rw [decide_eq_true_eq];omega
     repeat' (first|apply sK ()|apply sG ()|(apply gK ();go_step)|(with_reducible refine kL ?_;refine An hst (Ae (y:=x.2.2.1) Ab Ak Aa) ?_;rintro va ⟨hva,hva1⟩<;>(try refine nY ?_))|(with_reducible refine kL ?_;refine An hst (Ae (y:=(x.2.2.1[i]).2.2.2.1) Ab Ak Aa) ?_;rintro vb ⟨hvb,hvb1⟩<;>(try refine nY ?_))|apply sY ()|(apply sJ ();intro v hp)|fail)
     go_ret;exact ⟨_,rfl,hst.weaken hS1,_,rfl,fun h=>(by cases h)⟩
   ·obtain rfl:i=40:=by omega
    have hz2:decide (((x.2.2.1.length:Nat):Int)≤40)=false:=by rw [decide_eq_false_iff_not];omega
    obtain ⟨z,hz⟩:∃ z,decide (((x.2.1.length:Nat):Int)≤8)=z:=⟨_,rfl⟩
    cases z
    ·repeat' (first|go_skip|apply sG ()|(with_reducible refine Sl.k_guard ?_;refine Sl.guard_cases rfl ?_ ?_<;>intro hg<;>first|exact gX|(simp only [hg,Bool.not_true,Bool.not_false])<;>(try replace hg:=gN hg)<;>(try refine nY ?_))|apply sK ()|(apply gK ();go_step)|(with_reducible refine kL ?_;refine An hst (Ae (y:=x.2.2.1) Ab Ak Aa) ?_;rintro va ⟨hva,hva1⟩<;>(try refine nY ?_))|(with_reducible refine kL ?_;refine An hst (Ae (y:=x.2.1) Ab Ak Aa) ?_;rintro va ⟨hva,hva1⟩<;>(try refine nY ?_))|apply sY ()|(apply sJ ();intro v hp)|fail)
     go_ret;exact ⟨_,rfl,hst.weaken hS1,_,rfl,fun h=>(by cases h)⟩
    ·repeat' (first|apply sG ()|(with_reducible refine Sl.k_guard ?_;refine Sl.guard_cases rfl ?_ ?_<;>intro hg<;>first|exact gX|(simp only [hg,Bool.not_true,Bool.not_false])<;>(try replace hg:=gN hg)<;>(try refine nY ?_))|apply sK ()|(apply gK ();go_step)|(with_reducible refine kL ?_;refine An hst (Ae (y:=x.2.2.1) Ab Ak Aa) ?_;rintro va ⟨hva,hva1⟩<;>(try refine nY ?_))|(with_reducible refine kL ?_;refine An hst (Ae (y:=x.2.1) Ab Ak Aa) ?_;rintro va ⟨hva,hva1⟩<;>(try refine nY ?_))|apply sY ()|(apply sJ ();intro v hp)|fail)
     go_ret;exact ⟨_,rfl,hst.weaken hS1,_,rfl,fun h=>(by cases h)⟩
  ·obtain rfl:i=x.2.2.1.length:=by omega
   have HK2:=HK.out;rw [List.take_length] at HK2;have HK3:=Lib.hid HK2;clear HK HK2;have hz2:decide (((x.2.2.1.length:Nat):Int)≤40)=true:=by rw [decide_eq_true_eq];omega
   obtain ⟨z,hz⟩:∃ z,decide (((x.2.1.length:Nat):Int)≤8)=z:=⟨_,rfl⟩
   cases z
   ·repeat' (first|go_skip|apply sK ()|apply sG ()|(apply gK ();go_step)|(with_reducible refine kL ?_;refine An hst (Ae (y:=x.2.2.1) Ab Ak Aa) ?_;rintro va ⟨hva,hva1⟩<;>(try refine nY ?_))|(with_reducible refine kL ?_;refine An hst (Ae (y:=x.2.1) Ab Ak Aa) ?_;rintro va ⟨hva,hva1⟩<;>(try refine nY ?_))|apply sY ()|(apply sJ ();intro v hp)|fail)
    go_ret;exact ⟨_,rfl,hst.weaken hS1,_,rfl,fun h=>(by cases h)⟩
   ·repeat' (first|apply sK ()|apply sG ()|(apply gK ();go_step)|(with_reducible refine kL ?_;refine An hst (Ae (y:=x.2.2.1) Ab Ak Aa) ?_;rintro va ⟨hva,hva1⟩<;>(try refine nY ?_))|(with_reducible refine kL ?_;refine An hst (Ae (y:=x.2.1) Ab Ak Aa) ?_;rintro va ⟨hva,hva1⟩<;>(try refine nY ?_))|apply sY ()|(apply sJ ();intro v hp)|fail)
    go_ret;exact ⟨_,rfl,hst.weaken hS1,_,rfl,fun _=>⟨by have:=of_decide_eq_true hz;omega,by omega,HK3.out⟩⟩
theorem Yz {S M} (w:World) (hst:St S M w) (ca:List Value) (a:Pn) (hA:Rep.R S ca a) (cb:List Value) (b:Pn) (hB:Rep.R S cb b) :
  Ad Tryz.prog 56 [.agg ca.toArray,.agg cb.toArray] w fun v w'=>v=.bool (decide (Ff (kP a) (kP b)))∧St S M w':=by
 unfold Ad;obtain ⟨sa,rfl,a0,a1,a2,a3⟩:=BF hA;obtain ⟨sb,rfl,b0,b1,b2,b3⟩:=BF hB;clear hA hB;obtain ⟨R,hR⟩:∃ R,decide (Ff (kP a) (kP b))=R:=⟨_,rfl⟩
 rw [hR];have HR:=Lib.hid hR;clear hR;obtain ⟨z1,hz1⟩:∃ z,decide (a.1 < b.1)=z:=⟨_,rfl⟩
 obtain ⟨z2,hz2⟩:∃ z,(a.1 == b.1)=z:=⟨_,rfl⟩
 obtain ⟨z3,hz3⟩:∃ z,decide (a.2.1 < b.2.1)=z:=⟨_,rfl⟩
 have HZ:Hid ((z1 || (z2 && z3))=R):=Lib.hid (by
  rw [← HR.out,← hz1,← hz2,← hz3];rw [Bool.eq_iff_iff];simp only [Bool.or_eq_true,Bool.and_eq_true,decide_eq_true_eq,beq_iff_eq];exact Iff.rfl)
 clear HR;go_enter Tryz.func56,Tryz.ntmps56
 cases z1<;>cases z2
 ·repeat' (first|go_skip|apply sK ()|apply sG ()|(apply gK ();go_step)|apply sY ()|(apply sC ();clear hst;intro bx w hst)|fail)
  go_ret;exact ⟨_,rfl,by rw [← HZ.out];rfl,hst.drop.drop⟩
 ·repeat' (first|apply sK ()|apply sG ()|(apply gK ();go_step)|apply sY ()|(apply sC ();clear hst;intro bx w hst)|fail)
  go_ret;exact ⟨_,rfl,by rw [← HZ.out];cases z3<;>rfl,hst.drop.drop⟩
 ·repeat' (first|go_skip|apply sK ()|(apply gK ();go_step)|apply sY ()|(apply sC ();clear hst;intro bx w hst)|fail)
  go_ret;exact ⟨_,rfl,by rw [← HZ.out];rfl,hst.drop.drop⟩
 ·repeat' (first|go_skip|apply sK ()|(apply gK ();go_step)|apply sY ()|(apply sC ();clear hst;intro bx w hst)|fail)
  go_ret;exact ⟨_,rfl,by rw [← HZ.out];rfl,hst.drop.drop⟩
end Go.Proofs.YtmmbidoldegemaaGreatDoor
