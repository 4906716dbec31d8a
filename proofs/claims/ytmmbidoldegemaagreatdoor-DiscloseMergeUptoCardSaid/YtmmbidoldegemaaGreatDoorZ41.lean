/- Part 42 of a proof; no conditions. -/
import Derived.Test.YtmmbidoldegemaaGreatDoorZ40
set_option linter.all false
set_option maxRecDepth 8000
set_option maxHeartbeats 8000000
namespace Go.Proofs.YtmmbidoldegemaaGreatDoor
open Go.RowKit Go.Sl Go.Proofs.Tryz
set_option maxRecDepth 20000 in
theorem Rk {S M} (w) (V:St S M w) (va vb) (xs:List Hd) (ha:RSl S va xs) (hb:RSl S vb xs) (hn:xs.length≤1000000):
  Ac prog 32 [va,vb] w fun v w'=>v=.bool true∧St S M w':=by
 unfold Ac;have oa:=Lf ha;go_enter func32,ntmps32;repeat' (first|(apply tB ();refine Ag V (CY rfl rfl) ?_<;>apply nZ ())|(apply O ();go_step)|apply sY ()|fail)
 go_loopw [5] (fun u5 wr=>∃ i:Nat,i≤xs.length∧u5=.int .i64 (i:Int)∧St S M wr) (fun v _=>xs.length - (intOf v).toNat)
 case atStart=>exact ⟨0,Nat.zero_le _,rfl,V⟩
 case round =>
  clear V;obtain ⟨i,hi,rfl,V⟩:=hrel;by_cases hlt:i < xs.length
  ·have ka:=oa _ (List.getElem_mem hlt);have hdc:decide (xs[i]=xs[i])=true:=decide_eq_true rfl;repeat' ((apply ZZ 6);first|(apply O ();go_step)|apply sY ()|fail)
   refine AD V kr ?_;clear V;intro ops;apply nZ ();refine td 0 rfl ?_;refine td 1 rfl ?_;refine tx 2 rfl (Aq X Ak rfl Y Y Af Af) ?_;rintro v L;replace L:=iN L;refine tq 3 rfl (by exact BW X Ak Y Y rfl) ?_;refine td 4 rfl ?_;refine td 5 rfl ?_;refine tx 6 rfl (Aq X Ak rfl Y Y Af Af) ?_;rintro v L;replace L:=iN L;refine tq 7 rfl (by exact BW X Ak Y Y rfl) ?_;refine tq 8 rfl (ET rfl rfl (Dw ka) (Dw ka) Y Y Y hdc) ?_;refine AJ kr ?_;clear ops;intro w V;repeat' (first|(apply O ();go_step)|fail)
   apply gM ()
  apply gS ()
set_option maxRecDepth 20000 in
theorem PK {S M} (w) (V:St S M w) (va vb) (xs:List Pn) (ha:RSl S va xs) (hb:RSl S vb xs) (hn:xs.length≤1000000) (hm:∀ p∈xs,p.2.2.2.1.length≤1000000):
  Ac prog 34 [va,vb] w fun v w'=>v=.bool true∧St S M w':=by
 unfold Ac;go_enter func34,ntmps34;repeat' (first|(apply tB ();refine Ag V (CY rfl rfl) ?_<;>apply nZ ())|(apply O ();go_step)|apply sY ()|fail)
 go_loopw [5,6] (fun u5 _ wr=>∃ i:Nat,i≤xs.length∧u5=.int .i64 (i:Int)∧St S M wr) (fun v _ _=>xs.length - (intOf v).toNat)
 case atStart=>exact ⟨0,Nat.zero_le _,rfl,V⟩
 case round =>
  clear V;obtain ⟨i,hi,rfl,V⟩:=hrel;by_cases hlt:i < xs.length
  ·have hmi:=hm _ (List.getElem_mem hlt);repeat' ((apply ZZ 6);first|(apply O ();go_step)|apply sY ()|fail)
   refine Bm V kr ?_;clear V;intro w V;have hSS:=Cn V;apply nZ ();refine pd 0 rfl ?_;refine pd 1 rfl ?_;refine px 2 rfl (Aq X ha rfl Y Y Af Af) ?_;rintro v2 hp2;replace hp2:=iN hp2;refine px 3 rfl (As X hp2 Y Y rfl) ?_;rintro v3 hp3;refine px 4 rfl (Am X hp3 Y) ?_;rintro v4 ⟨rfl,hI4⟩;refine pd 5 rfl ?_;refine pd 6 rfl ?_;refine px 7 rfl (Aq X hb rfl Y Y Af Af) ?_;rintro v7 hp7;replace hp7:=iN hp7;refine px 8 rfl (As X hp7 Y Y rfl) ?_;rintro v8 hp8;refine px 9 rfl (Am X hp8 Y) ?_;rintro v9 ⟨rfl,hI9⟩;refine pt 10 rfl (CY rfl rfl) ?_;refine pd 11 rfl ?_;refine pd 12 rfl ?_;refine pd 13 rfl ?_;refine px 14 rfl (Aq X ha rfl Y Y Af Af) ?_;rintro v14 hp14;replace hp14:=iN hp14;refine px 15 rfl (As X hp14 Y Y rfl) ?_;rintro v15 hp15;refine px 16 rfl (Am X hp15 Y) ?_;rintro v16 ⟨rfl,hI16⟩;refine pd 17 rfl ?_;refine pd 18 rfl ?_;refine px 19 rfl (Aq X hb rfl Y Y Af Af) ?_;rintro v19 hp19;replace hp19:=iN hp19;refine px 20 rfl (As X hp19 Y Y rfl) ?_;rintro v20 hp20;refine px 21 rfl (Am X hp20 Y) ?_;rintro v21 ⟨rfl,hI21⟩;refine pt 22 rfl (CY rfl rfl) ?_;refine pd 23 rfl ?_;refine pd 24 rfl ?_;refine pd 25 rfl ?_;refine pd 26 rfl ?_;refine px 27 rfl (Aq X ha rfl Y Y Af Af) ?_;rintro v27 hp27;replace hp27:=iN hp27;refine px 28 rfl (As X hp27 Y Y rfl) ?_;rintro v28 hp28;refine px 29 rfl (Am X hp28 Y) ?_;rintro v29 ⟨rfl,hI29⟩;refine pd 30 rfl ?_;refine pd 31 rfl ?_
   refine px 32 rfl (Aq X hb rfl Y Y Af Af) ?_;rintro v32 hp32;replace hp32:=iN hp32;refine px 33 rfl (As X hp32 Y Y rfl) ?_;rintro v33 hp33;refine px 34 rfl (Am X hp33 Y) ?_;rintro v34 ⟨rfl,hI34⟩;refine pt 35 rfl (CY rfl rfl) ?_;refine pd 36 rfl ?_;refine pd 37 rfl ?_;refine pd 38 rfl ?_;refine pd 39 rfl ?_;refine px 40 rfl (Aq X ha rfl Y Y Af Af) ?_;rintro v40 hp40;replace hp40:=iN hp40;refine px 41 rfl (As X hp40 Y Y rfl) ?_;rintro v41 hp41;refine px 42 rfl (Aj X hp41 Y) ?_;rintro v42 ⟨hv42,hv421⟩;refine pd 43 rfl ?_;refine pd 44 rfl ?_;refine pd 45 rfl ?_;refine px 46 rfl (Aq X hb rfl Y Y Af Af) ?_;rintro v46 hp46;replace hp46:=iN hp46;refine px 47 rfl (As X hp46 Y Y rfl) ?_;rintro v47 hp47;refine px 48 rfl (Aj X hp47 Y) ?_;rintro v48 ⟨hv48,hv481⟩;refine pd 49 rfl ?_;refine pt 50 rfl (CY rfl rfl) ?_;refine pd 51 rfl ?_;refine AK kr ?_;repeat' (first|(apply O ();go_step)|fail)
   go_loopw [6] (fun u6 wr=>∃ j:Nat,j≤((xs[i]).2.2.2.1).length∧u6=.int .i64 (j:Int)∧St S M wr) (fun v _=>((xs[i]).2.2.2.1).length - (intOf v).toNat)
   case atStart=>exact ⟨0,Nat.zero_le _,rfl,V⟩
   case round =>
    clear V;obtain ⟨j,hj,rfl,V⟩:=hrel;by_cases hjt:j < ((xs[i]).2.2.2.1).length
    ·have hdc:decide ((xs[i]).2.2.2.1[j]=(xs[i]).2.2.2.1[j])=true:=decide_eq_true rfl;repeat' ((apply ZZ 11);first|(apply O ();go_step)|(apply tL ();refine An V (Aj (y:=(xs[i]).2.2.2.1) X Ak Y) ?_;rintro vf ⟨hvf,hvf1⟩<;>apply nZ ())|apply sY ()|(apply sJ ();intro v L)|fail)
     refine Bm V kr ?_;clear V;intro w V;have hSS:=Cn V;apply nZ ();refine pd 0 rfl ?_;refine pd 1 rfl ?_;refine px 2 rfl (Aq X ha rfl Y Y Af Af) ?_;rintro v2 hp2;replace hp2:=iN hp2;refine px 3 rfl (As X hp2 Y Y rfl) ?_;rintro v3 hp3;refine px 4 rfl (Aj X hp3 Y) ?_;rintro v4 ⟨hv4,hv41⟩;replace hv4:RSl S v4 (xs[i]).2.2.2.1:=hv4;refine pd 5 rfl ?_;refine px 6 rfl (Aq X hv4 rfl Y Y Af Af) ?_;rintro v6 hp6;replace hp6:=iN hp6;refine px 7 rfl (Aw X hp6 Y) ?_;rintro v7 ⟨c7,rfl,hc7⟩;refine pd 8 rfl ?_;refine pd 9 rfl ?_;refine px 10 rfl (Aq X hb rfl Y Y Af Af) ?_;rintro v10 hp10;replace hp10:=iN hp10;refine px 11 rfl (As X hp10 Y Y rfl) ?_;rintro v11 hp11;refine px 12 rfl (Aj X hp11 Y) ?_;rintro v12 ⟨hv12,hv121⟩;replace hv12:RSl S v12 (xs[i]).2.2.2.1:=hv12;refine pd 13 rfl ?_;refine px 14 rfl (Aq X hv12 rfl Y Y Af Af) ?_;rintro v14 hp14;replace hp14:=iN hp14;refine px 15 rfl (Aw X hp14 Y) ?_;rintro v15 ⟨c15,rfl,hc15⟩;refine pt 16 rfl (ET rfl rfl hc7 hc15 Y Y Y hdc) ?_;apply jH ()
    ·obtain rfl:j=((xs[i]).2.2.2.1).length:=by omega
     repeat' (first|(apply O ();go_step)|(apply tL ();refine An V (Aj (y:=(xs[i]).2.2.2.1) X Ak Y) ?_;rintro vf ⟨hvf,hvf1⟩<;>apply nZ ())|apply sY ()|(apply sJ ();intro v L)|fail)
     apply gM ()
  apply gS ()
set_option maxRecDepth 20000 in
theorem Rj {S M} (w) (V:St S M w) (va vb) (xs:List (List Int)) (ha:RSl S va xs) (hb:RSl S vb xs) (hn:xs.length≤1000000) (hm:∀ p∈xs,p.length≤1000000):
  Ac prog 21 [va,vb] w fun v w'=>v=.bool true∧St S M w':=by
 unfold Ac;go_enter func21,ntmps21;repeat' (first|(apply tB ();refine Ag V (CY rfl rfl) ?_<;>apply nZ ())|(apply O ();go_step)|apply sY ()|fail)
 go_loopw [5,6] (fun u5 _ wr=>∃ i:Nat,i≤xs.length∧u5=.int .i64 (i:Int)∧St S M wr) (fun v _ _=>xs.length - (intOf v).toNat)
 case atStart=>exact ⟨0,Nat.zero_le _,rfl,V⟩
 case round =>
  clear V;obtain ⟨i,hi,rfl,V⟩:=hrel;by_cases hlt:i < xs.length
  ·have hmi:=hm _ (List.getElem_mem hlt);repeat' ((apply ZZ 6);first|(apply O ();go_step)|apply sY ()|fail)
   refine Bm V kr ?_;clear V;intro w V;have hSS:=Cn V;apply nZ ();refine pd 0 rfl ?_;refine pd 1 rfl ?_;refine px 2 rfl (Aq X ha rfl Y Y Af Af) ?_;rintro v2 hp2;replace hp2:=iN hp2;refine px 3 rfl (Aj X hp2 Y) ?_;rintro v3 ⟨hv3,hv31⟩;replace hv3:RSl S v3 xs[i]:=hv3;refine pd 4 rfl ?_;refine pd 5 rfl ?_;refine pd 6 rfl ?_;refine px 7 rfl (Aq X hb rfl Y Y Af Af) ?_;rintro v7 hp7;replace hp7:=iN hp7;refine px 8 rfl (Aj X hp7 Y) ?_;rintro v8 ⟨hv8,hv81⟩;replace hv8:RSl S v8 xs[i]:=hv8;refine pd 9 rfl ?_;refine pt 10 rfl (CY rfl rfl) ?_;refine AK kr ?_;repeat' (first|(apply O ();go_step)|fail)
   go_loopw [6] (fun u6 wr=>∃ j:Nat,j≤(xs[i]).length∧u6=.int .i64 (j:Int)∧St S M wr) (fun v _=>(xs[i]).length - (intOf v).toNat)
   case atStart=>exact ⟨0,Nat.zero_le _,rfl,V⟩
   case round =>
    clear V;obtain ⟨j,hj,rfl,V⟩:=hrel;by_cases hjt:j < (xs[i]).length
    ·repeat' ((apply ZZ 11);first|(apply O ();go_step)|(apply tL ();refine An V (Aj (y:=xs[i]) X Ak Y) ?_;rintro vf ⟨hvf,hvf1⟩<;>apply nZ ())|apply sY ()|(apply sJ ();intro v L)|fail)
     refine Bm V kr ?_;clear V;intro w V;have hSS:=Cn V;apply nZ ();refine pd 0 rfl ?_;refine pd 1 rfl ?_;refine px 2 rfl (Aq X ha rfl Y Y Af Af) ?_;rintro v2 hp2;replace hp2:=iN hp2;refine px 3 rfl (Aj X hp2 Y) ?_;rintro v3 ⟨hv3,hv31⟩;replace hv3:RSl S v3 xs[i]:=hv3;refine pd 4 rfl ?_;refine px 5 rfl (Aq X hv3 rfl Y Y Af Af) ?_;rintro v5 hp5;replace hp5:=iN hp5;refine px 6 rfl (Am X hp5 Y) ?_;rintro v6 ⟨rfl,hI6⟩;refine pd 7 rfl ?_;refine pd 8 rfl ?_;refine px 9 rfl (Aq X hb rfl Y Y Af Af) ?_;rintro v9 hp9;replace hp9:=iN hp9;refine px 10 rfl (Aj X hp9 Y) ?_;rintro v10 ⟨hv10,hv101⟩;replace hv10:RSl S v10 xs[i]:=hv10;refine pd 11 rfl ?_;refine px 12 rfl (Aq X hv10 rfl Y Y Af Af) ?_;rintro v12 hp12;replace hp12:=iN hp12;refine px 13 rfl (Am X hp12 Y) ?_;rintro v13 ⟨rfl,hI13⟩;refine pt 14 rfl (CY rfl rfl) ?_;apply jH ()
    ·obtain rfl:j=(xs[i]).length:=by omega
     repeat' (first|(apply O ();go_step)|(apply tL ();refine An V (Aj (y:=xs[i]) X Ak Y) ?_;rintro vf ⟨hvf,hvf1⟩<;>apply nZ ())|apply sY ()|(apply sJ ();intro v L)|fail)
     apply gM ()
  apply gS ()
end Go.Proofs.YtmmbidoldegemaaGreatDoor
namespace Go.Proofs.YtmmbidoldegemaaGreatDoor
open Go.RowKit Go.Sl Go.Srt Go.Proofs.Tryz
set_option maxRecDepth 20000 in
theorem Vx {S M} (w) (V:St S M w) (ca cb) (x y:Cz) (HE:Hid (x=y)) (hA:Z.R S ca x) (hB:Z.R S cb y) (hh:x.2.1.length≤1000000) (hn:x.2.2.1.length≤1000000) (hm:∀ p∈x.2.2.1,p.2.2.2.1.length≤1000000):
  Ac prog 12 [.agg ca.toArray,.agg cb.toArray] w fun v w'=>v=.bool true∧St S M w':=by
 unfold Ac;have hx16:x.1.l.length=16:=hA.2.1.1;have hy16:y.1.l.length=16:=hB.2.1.1;have hone1:=Z.one hA;have hone2:=Z.one hB;go_enter func12,ntmps12;repeat' ((apply ZZ 0);first|(apply O ();go_step)|fail)
 refine wp_region_lit ?_;refine I5 (cs:=ca) V X rfl ?_;clear V;intro b1 w V;apply nZ ();refine I5 (cs:=cb) V X rfl ?_;clear V;intro b2 w V;apply nZ ();repeat' ((apply ZZ 1);first|(apply O ();go_step)|fail)
 obtain ⟨S1,hS1,hst1,hpy⟩:=AC (α:=Cz) V hB (Z.len hB);obtain ⟨S2,hS2,hst2,hpx⟩:=AC (α:=Cz) hst1 (Z.mono hS1 hA) (Z.len hA);clear V hst1;have V:=hst2;clear hst2;replace hpy:=Pt.mono hS2 hpy;generalize Value.pointer (some ⟨b1,0,none⟩)=pX at *;generalize Value.pointer (some ⟨b2,0,none⟩)=pY at *;have hle2:=hS1.trans hS2;clear hA hB hS1 hS2;have hz1:decide (x.1=y.1)=true:=decide_eq_true (by rw [HE.out]);have cH:=fun {M} w (V:St S2 M w) (va vb:Value) (ha:RSl S2 va x.2.1) (hb:RSl S2 vb y.2.1)=>Rk w V va vb x.2.1 ha (by rw [HE.out];exact hb) hh
 have cP:=fun {M} w (V:St S2 M w) (va vb:Value) (ha:RSl S2 va x.2.2.1) (hb:RSl S2 vb y.2.2.1)=>PK w V va vb x.2.2.1 ha (by rw [HE.out];exact hb) hn hm
 repeat' (first|(apply tB ();refine Ag V (I9 rfl rfl (BL hx16) (BL hy16) Y Y inferInstance hz1) ?_<;>apply nZ ())|apply sG ()|(apply O ();go_step)|(apply tL ();refine An V (Aj (y:=x.2.1) X Ak Y) ?_;rintro va ⟨hva,hva1⟩<;>apply nZ ())|(apply tL ();refine An V (Aj (y:=y.2.1) X Ak Y) ?_;rintro vb ⟨hvb,hvb1⟩<;>apply nZ ())|(apply tL ();refine An V (Aj (y:=x.2.2.1) X Ak Y) ?_;rintro vc ⟨hvc,hvc1⟩<;>apply nZ ())|(apply tL ();refine An V (Aj (y:=y.2.2.1) X Ak Y) ?_;rintro vd ⟨hvd,hvd1⟩<;>apply nZ ())|(apply kc ();refine sc (cH _ V va vb hva hvb) ?_;clear V;rintro v w ⟨rfl,V⟩)|(apply kc ();refine sc (cP _ V vc vd hvc hvd) ?_;clear V;rintro v w ⟨rfl,V⟩)|apply sP ()|(apply sJ ();intro v L)|fail)
 go_ret;exact ⟨_,rfl,rfl,V.weaken hle2⟩
theorem PL {S M} (w) (V:St S M w) (ca cb) (x:Cz) (hA:Z.R S ca x) (hB:Z.R S cb x) (hh:x.2.1.length≤1000000) (hn:x.2.2.1.length≤1000000) (hm:∀ p∈x.2.2.1,p.2.2.2.1.length≤1000000):
  Ac prog 12 [.agg ca.toArray,.agg cb.toArray] w fun v w'=>v=.bool true∧St S M w':=Vx w V ca cb x x (Lib.hid rfl) hA hB hh hn hm
theorem KZ {S cl} {x:Int×Int} (h:Z.R S cl x):cl=[.int .i64 x.1,.int .i64 x.2]∧Au x.1∧Au x.2:=by
 obtain ⟨hl,h1,h2⟩:=h;obtain ⟨e1,i1⟩:=h1;obtain ⟨e2,i2⟩:=h2;refine ⟨?_,i1,i2⟩;apply jy ()
theorem WW {i k:List (Int×Int)} {j} (h):Co i (k.take (j+1))=Co i (k.take j)++(if k[j]∈i then [] else [k[j]]):=by
 unfold Co;rw [List.take_succ_eq_append_getElem h,List.filter_append,← List.append_assoc];by_cases hm:k[j]∈i
 ·rw [List.filter_cons_of_neg (by simpa using hm),List.filter_nil,if_pos hm]
 ·rw [List.filter_cons_of_pos (by simpa using hm),List.filter_nil,if_neg hm]
theorem Xl {i:List (Int×Int)} {g} (h x):(i.take (g+1)).any (fun y=>decide (x=y))=((i.take g).any (fun y=>decide (x=y)) || decide (x=i[g])):=by
 rw [List.take_succ_eq_append_getElem h,List.any_append];simp
theorem ZU {i:List (Int×Int)} {x}:i.any (fun y=>decide (x=y))=decide (x∈i):=by
 rw [Bool.eq_iff_iff,List.any_eq_true,decide_eq_true_eq];constructor
 ·rintro ⟨y,hy,e⟩;rw [of_decide_eq_true e];exact hy
 ·exact fun h=>⟨x,h,decide_eq_true rfl⟩
theorem dv:Key prog 57 (Int×Int) 2:=by haveI:Key prog 3 Int 1:=LH kr;exact Mx inferInstance kr kr (by decide)
theorem VV {Lqq a b ps} (h:H0 Lqq a b ps):∀ r∈ps,GF Lqq r:=fun r hr=>by
 obtain ⟨h1,h2,_,h4⟩:=h.2 r hr;exact ⟨h1,h2,h4⟩
theorem VU {Lqq a b ps} (h:H0 Lqq a b ps):ps.Nodup:=h.1.imp fun {a b} hab e=>by
 subst e;unfold fS at hab;omega
theorem TR {S M} (w) (V:St S M w) (hG:Bu S) (m) (hm:m.l.length=16) (vl log) (hl:RSl S vl log) (hlen:log.length≤1000) (hok:∀ e∈log,JD e) (vr rs) (hr:RSl S vr rs) (hrl:rs.length≤1000) (hi:∀ r∈rs,GF log r) (hn:rs.Nodup):
  Ac prog 16 [Cu m,vl,vr] w fun v w'=>∃ S' cs,S.Le S'∧v=.tuple #[.agg cs.toArray,.int .i64 0]∧Z.R S' cs (EM m log rs)∧St S' M w' :=
 (V9 w V hG m hm vl log hl hlen hok vr rs hr (by omega)).mono fun v w' ⟨S',hS,hk,h⟩=>by
  rw [V7 rs [] hi hn (fun r _=>List.not_mem_nil)] at h;obtain ⟨cs,h1,h2⟩:=h;exact ⟨S',cs,hS,h1,h2,hk⟩
theorem R8 {log} (h:∀ e∈log,JD e) (r):(FB log r).2.2.2.1.length≤1000000:=by
 unfold FB
 cases he:log[r.1.toNat]? with
 | none=>exact Nat.zero_le _
 | some e =>
  have h1:=(h e (List.mem_of_getElem? he)).2.1;have h2:=If (FM e) r.2.toNat;have h3:(FM e).length=e.2.2.1.length:=by unfold FM;exact G9 _ _
  show (Bk (FM e) r.2.toNat).length≤_;omega
abbrev Xo (S:Ad) (M:List J) (r:List Pg×List Ev) (v:Value) (w:World):Prop :=
 ∃ S' sp sl:_,S.Le S'∧v=.tuple #[Ar sp,Ar sl]∧RSl S' (Ar sp) r.1∧RSl S' (Ar sl) r.2∧St S' M w
def ja:Prop:=∀ {S:Ad} {M:List J} (w:World) (_:St S M w) (vl:Value) (l:List Rn) (_:RSl S vl l) (_:l.length≤1048576),Ac prog 15 [vl] w (Xo S M (F2 l))
def l9:Prop:=∀ {S:Ad} {M:List J} (w:World) (_:St S M w) (_:Bu S),Ac prog 9 [] w fun v w'=>v=.bool true∧St S M w'
set_option maxRecDepth 60000 in
theorem gF (hB:ja) (hSan:l9) {S M} (w) (V:St S M w) (hG:Bu S) (vl) (l:List Rn) (hl:RSl S vl l) (hm:l.length≤1048576) (m) (hm16:m.l.length=16) (p1 p2:UInt32):
  Ac prog 6 [vl,Cu m,.int .u32 (p1.toNat:Int),.int .u32 (p2.toNat:Int)] w fun v w'=>v=.bool true∧St S M w':=by
 unfold Ac
 haveI:LenIs m.l 16:=⟨hm16⟩
 obtain ⟨q1,q2,q3⟩:=dZ l;have cB:=fun {M} w (V:St S M w)=>hB w V vl l hl hm
 obtain ⟨BP,hBP⟩:∃ r,F2 l=r:=⟨_,rfl⟩
 rw [hBP] at q1 q2 q3 cB;clear hBP;obtain ⟨pgs,Lqq⟩:=BP;simp only at q1 q2 q3;go_enter func6,ntmps6;repeat' ((apply ZZ 1);first|(apply O ();go_step)|(apply sC ();clear V;intro bx w V)|fail)
 repeat' ((apply ZZ 2);first|(apply O ();go_step)|(apply kc ();refine BG (cB _ V) Y rfl ?_;clear V;rintro v w ⟨S1,sp,sg,hS1,rfl,hP,hL,V⟩<;>apply nZ ()<;>(try replace V:=nH V))|fail)
 have hL:RSl S1 (Ar sg) Lqq:=hL;have cA:=fun {S':Ad} {M:List J} (w:World) (hS:S1.Le S') (V:St S' M w) (pk:UInt32)=>i6 w V (Ar sg) Lqq (hL.mono hS) (by omega) (fun e he=>(q3 e he).2.1) pk
 repeat' ((apply ZZ 3);first|(apply O ();go_step)|(apply kc ();refine BG (cA _ (Ad.Le.refl S1) V p1) Y rfl ?_;clear V;rintro v w ⟨S2,so1,i,hS2,rfl,hI,hPi,hni,V⟩<;>apply nZ ()<;>(try replace V:=nH V))|(apply kc ();refine BG (cA _ hS2 V p2) Y rfl ?_;clear V;rintro v w ⟨S3,so2,k,hS3,rfl,hK2,hPk,hnk,V⟩<;>apply nZ ()<;>(try replace V:=nH V))|fail)
 replace hI:=hI.mono hS3;repeat' ((apply ZZ 4);first|(apply O ();go_step)|fail)
 refine Ay (vs:=[]) (cs:=[]) V Y Y rfl rfl (by simp) rfl (by omega) (by omega) ?_;clear V;intro x0 w V;apply nZ ();repeat' ((apply ZZ 4);first|(apply O ();go_step)|fail)
 refine Bj (α:=Int×Int) (k:=0) V X X rfl hI Y Y Y (by omega) (by omega) (by decide) ?_;clear V;intro x2 w c2 hc2 V;apply nZ ();simp only [List.set_cons_zero,List.nil_append,Nat.zero_add] at V;have hone:=BE (k:=0) V rfl;obtain ⟨ax,cx,hso⟩:=Go.Sl.sl_formk (k:=0) V rfl;subst hso;apply nZ ();repeat' ((apply ZZ 4);first|(apply O ();go_step)|fail)
 repeat' (first|(apply O ();go_step)|apply sY ()|fail)
 go_loopw [13,49] (fun u13 u49 wr=>∃ (j n:Nat) (T:Ad) (ao:Option Addr) (ko:Nat) (co:List Value),j≤k.length∧n≤i.length+j∧S3.Le T∧u13=.slice ao n ko∧u49=.int .i64 (j:Int)∧Hid (n=(Co i (k.take j)).length)∧RL T co (Co i (k.take j))∧St T (.sl (.slice ao n ko) 57 2 n co::.box bx (u8s m.l) 23::M) wr) (fun _ v _=>k.length - (intOf v).toNat)
 case atStart=>exact ⟨0,i.length,S3,ax,cx,c2,Nat.zero_le _,by omega,Ad.Le.refl S3,rfl,rfl,Lib.hid (by simp [Co]),by simpa [Co] using hc2,V⟩
 case round =>
  clear V;obtain ⟨j,n,T,ao,ko,co,hj2,hnj,hT,rfl,rfl,HN,hC,V⟩:=hrel;have hone:=BE (k:=0) V rfl;have hK3:=hK2.mono hT;have hI3:=hI.mono hT;by_cases hjl:j < k.length
  ·repeat' ((apply ZZ 7);first|(apply O ();go_step)|apply sP ()|(apply sJ ();intro v L)|(apply sZ ();clear V;intro bk w V)|fail)
   obtain ⟨cl,hcl⟩:=KR hK3 hjl;have hclx:=hcl;obtain ⟨rfl,hx1,hx2⟩:=KZ hcl;clear hcl;refine Ax (cs:=[.int .i64 (k[j]).1,.int .i64 (k[j]).2]) V rfl _ N.h Y X rfl A3 A2 (by simp) ?_;clear V;intro w V;apply nZ ();simp only [List.set_cons_zero,List.take_zero,List.nil_append,List.drop_succ_cons,List.drop_zero,Nat.zero_add,List.append_nil,List.length_cons,List.length_nil,Nat.reduceAdd,List.cons_append] at V;repeat' ((apply ZZ 7);first|(apply O ();go_step)|fail)
   obtain ⟨T1,hT1,hst1,hpx⟩:=AC (α:=Int×Int) V hclx rfl;clear V;have V:=hst1;clear hst1 hclx;generalize Value.pointer (some ⟨bk,0,none⟩)=pX at *;obtain ⟨x,hx⟩:∃ x,k[j]=x:=⟨_,rfl⟩
   have HX:=Lib.hid hx;rw [hx] at hpx;clear hx hx1 hx2;have hC1:=hC.mono hT1;have hI4:=hI3.mono hT1;clear hI3 hC;repeat' (first|(apply O ();go_step)|apply sY ()|fail)
   go_loopw [16,55] (fun u16 u55 wr=>∃ (g:Nat) (T2:Ad),g≤i.length∧T1.Le T2∧u16=.bool ((i.take g).any (fun y=>decide (x=y)))∧u55=.int .i64 (g:Int)∧St T2 (.sl (.slice ao n ko) 57 2 n co::.box bx (u8s m.l) 23::M) wr) (fun _ v _=>i.length - (intOf v).toNat)
   case atStart=>exact ⟨0,T1,Nat.zero_le _,Ad.Le.refl T1,rfl,rfl,V⟩
   case round =>
    clear V;rename_i j0 hlt0;obtain ⟨g,T2,hg2,hT2,rfl,rfl,V⟩:=hrel;have hone:=BE (k:=0) V rfl;have hI5:=hI4.mono hT2;have hpx2:=Pt.mono hT2 hpx;by_cases hgl:g < i.length
    ·have hsn:=Xl hgl x;generalize (i.take g).any (fun y=>decide (x=y))=z at *;obtain ⟨z2,hz2⟩:∃ z2,decide (x=i[g])=z2:=⟨_,rfl⟩
     rw [hz2] at hsn;have HSN:=Lib.hid hsn;clear hsn;repeat' ((apply ZZ 11);first|(apply O ();go_step)|apply sP ()|(apply sJ ();intro v L)|(apply sZ ();clear V;intro bk w V)|fail)
     obtain ⟨cl,hcl⟩:=KR hI5 hgl;have hclx:=hcl;obtain ⟨rfl,hx1,hx2⟩:=KZ hcl;clear hcl;refine Ax (cs:=[.int .i64 (i[g]).1,.int .i64 (i[g]).2]) V rfl _ N.h Y X rfl A3 A2 (by simp) ?_;clear V;intro w V;apply nZ ();simp only [List.set_cons_zero,List.take_zero,List.nil_append,List.drop_succ_cons,List.drop_zero,Nat.zero_add,List.append_nil,List.length_cons,List.length_nil,Nat.reduceAdd,List.cons_append] at V;repeat' ((apply ZZ 11);first|(apply O ();go_step)|fail)
     obtain ⟨T3,hT3,hst1,hpy⟩:=AC (α:=Int×Int) V hclx rfl;clear V;have V:=hst1;clear hst1 hclx;generalize Value.pointer (some ⟨bk,0,none⟩)=pY at *;have hpx3:=Pt.mono hT3 hpx2
     cases z with
     | true =>
      repeat' (first|apply sG ()|(apply O ();go_step)|fail)
      apply jx ()
     | false =>
      repeat' (first|(apply tB ();refine Ag V (I9 (x:=x) (y:=i[g]) rfl rfl hca hcb Y Y dv hz2) ?_<;>apply nZ ())|apply sG ()|(apply O ();go_step)|(apply tL ();(first|(refine An V (Aw (y:=x) X hpx3 Y) ?_;rintro v61 ⟨ca,rfl,hca⟩)|(refine An V (Aw (y:=i[g]) X hpy Y) ?_;rintro v62 ⟨cb,rfl,hcb⟩))<;>apply nZ ())|fail)
      apply jx ()
    ·obtain rfl:g=i.length:=by omega
     have hk1:(i.take i.length).any (fun y=>decide (x=y))=decide (x∈i):=by rw [List.take_length,ZU]
     rw [hk1];clear hk1;have hC2:=hC1.mono hT2;have hbs:=WW (i:=i) hjl;rw [HX.out] at hbs;have HBS:=Lib.hid hbs;clear hbs;have hTT:=hT.trans (hT1.trans hT2);by_cases hmem:x∈i
     ·rw [decide_eq_true hmem];have hb2:=HBS.out;rw [if_pos hmem,List.append_nil] at hb2;have HB2:=Lib.hid hb2;clear hb2;repeat' (first|(apply O ();go_step)|fail)
      go_roundw
      case rel=>exact ⟨j+1,n,T2,ao,ko,co,by omega,by omega,hTT,rfl,by go_num,Lib.hid (by rw [HB2.out];exact HN.out),by rw [HB2.out];exact hC2,V⟩
      case measure=>simp [intOf];omega
     ·rw [decide_eq_false hmem];have hb2:=HBS.out;rw [if_neg hmem] at hb2;have HB2:=Lib.hid hb2;clear hb2;repeat' (first|(apply O ();go_step)|(apply tL ();(refine An V (Aw (y:=x) X hpx2 Y) ?_;rintro v69 ⟨ca,rfl,hca⟩)<;>apply nZ ())|fail)
      have hcax:=hca;obtain ⟨rfl,hx1,hx2⟩:=KZ hca;clear hca;rw [show Z.agg (Int×Int)=true from rfl];apply nZ ();refine Ay (vs:=[(.agg #[.int .i64 x.1,.int .i64 x.2])]) V Y Y rfl rfl (by simp [Value.cells]) rfl (by omega) (by omega) ?_;clear V;intro u w V;refine nY ?_;refine AF (j:=0) V X X SlIn.h rfl Y Y Y (by simp [Value.cells,Value.oneCell']) (by omega) (by omega) (by decide) ?_;clear V;intro v' w V;refine nY ?_;(try replace V:=nH V);replace V:=V.drop;obtain ⟨ay,cy,hso⟩:=Go.Sl.sl_formk (k:=0) V rfl;subst hso;apply nZ ();repeat' (first|(apply O ();go_step)|fail)
      go_roundw
      case rel=>exact ⟨j+1,n+1,T2,ay,cy,_,by omega,by omega,hTT,rfl,by go_num,Lib.hid (by rw [HB2.out,List.length_append,← HN.out];rfl),by rw [HB2.out];exact hC2.append (RL.one_mk hcax),V.sub⟩
      case measure=>simp [intOf];omega
  ·obtain rfl:j=k.length:=by omega
   have hnn:=HN.out;rw [List.take_length] at hC hnn;obtain ⟨S4,hS4,hst4,hB3⟩:=St.freeze (α:=Int×Int) V hC hnn;clear V;have V:=hst4;clear hst4;have hG4:=hG.mono (hS1.trans (hS2.trans (hS3.trans (hT.trans hS4))));have hle4:=hS1.trans (hS2.trans (hS3.trans (hT.trans hS4)));have hL4:RSl S4 (Ar sg) Lqq:=hL.mono (hS2.trans (hS3.trans (hT.trans hS4)));have hI4:=hI3.mono hS4;have hK4:=hK3.mono hS4;have ini:=VV hPi;have ink:=VV hPk;have ni:=VU hPi;have nk:=VU hPk;have hok:∀ e∈Lqq,JD e:=fun e he=>iY (q3 e he)
   have lb:(Co i k).length≤1000:=by
    have h1:=List.length_filter_le (fun r=>decide (r ∉ i)) k;unfold Co;rw [List.length_append];omega
   have cM1:=fun {S':Ad} {M:List J} (w:World) (hS:S4.Le S') (V:St S' M w)=>TR w V (hG4.mono hS) m hm16 (Ar sg) Lqq (hL4.mono hS) (by omega) hok (Ar so1) i (hI4.mono hS) (by omega) ini ni
   have cM2:=fun {S':Ad} {M:List J} (w:World) (hS:S4.Le S') (V:St S' M w)=>TR w V (hG4.mono hS) m hm16 (Ar sg) Lqq (hL4.mono hS) (by omega) hok (Ar so2) k (hK4.mono hS) (by omega) ink nk
   have cM3:=fun {S':Ad} {M:List J} (w:World) (hS:S4.Le S') (V:St S' M w)=>TR w V (hG4.mono hS) m hm16 (Ar sg) Lqq (hL4.mono hS) (by omega) hok (.slice ao n ko) (Co i k) (hB3.mono hS) lb (Ov ini ink) (LP ni nk)
   clear hS1 hS2 hS3 hT hS4 hP hL hI hK2 hI3 hK3 hC HN hnn hone;repeat' (first|(apply O ();go_step)|(apply kc ();refine BG (cM1 _ (Ad.Le.refl S4) V) Y rfl ?_;clear V;rintro v w ⟨S5,ca,hS5,rfl,hRa,V⟩<;>apply nZ ()<;>(try replace V:=nH V))|(apply tL ();refine Ag V (by exact Gc X N.h Y Y) ?_<;>apply nZ ())|(apply sZ ();clear V;intro bk w V)|fail)
   refine Cf V rfl N.h Y rfl hRa rfl ?_;clear V;intro w V;apply nZ ();(try replace V:=nH V);rename Nat=>bA
   repeat' ((apply ZZ 17);first|(apply O ();go_step)|fail)
   obtain ⟨S6,hS6,hst1,hpA⟩:=AC (α:=Cz) V hRa (Z.len hRa);clear V;have V:=hst1;clear hst1;generalize Value.pointer (some ⟨bA,0,none⟩)=pA at *;have hleA:=hS5.trans hS6;clear cM1 hRa hS5 hS6;repeat' (first|(apply O ();go_step)|(apply kc ();refine BG (cM2 _ hleA V) Y rfl ?_;clear V;rintro v w ⟨S7,cb,hS7,rfl,hRb,V⟩<;>apply nZ ()<;>(try replace V:=nH V))|(apply tL ();refine Ag V (by exact Gc X N.h Y Y) ?_<;>apply nZ ())|(apply sZ ();clear V;intro bk w V)|fail)
   refine Cf V rfl N.h Y rfl hRb rfl ?_;clear V;intro w V;apply nZ ();(try replace V:=nH V);rename Nat=>bB
   repeat' ((apply ZZ 18);first|(apply O ();go_step)|fail)
   obtain ⟨S8,hS8,hst1,hpB⟩:=AC (α:=Cz) V hRb (Z.len hRb);clear V;have V:=hst1;clear hst1;generalize Value.pointer (some ⟨bB,0,none⟩)=pB at *;have hleB:=hleA.trans (hS7.trans hS8);replace hpA:=Pt.mono (hS7.trans hS8) hpA;clear cM2 hRb hS7 hS8 hleA;repeat' (first|(apply O ();go_step)|(apply kc ();refine BG (cM3 _ hleB V) Y rfl ?_;clear V;rintro v w ⟨S9,cc,hS9,rfl,hRc,V⟩<;>apply nZ ()<;>(try replace V:=nH V))|(apply tL ();refine Ag V (by exact Gc X N.h Y Y) ?_<;>apply nZ ())|(apply sZ ();clear V;intro bk w V)|fail)
   refine Cf V rfl N.h Y rfl hRc rfl ?_;clear V;intro w V;apply nZ ();(try replace V:=nH V);rename Nat=>bC
   repeat' ((apply ZZ 19);first|(apply O ();go_step)|fail)
   obtain ⟨S10,hS10,hst1,hpC⟩:=AC (α:=Cz) V hRc (Z.len hRc);clear V;have V:=hst1;clear hst1;generalize Value.pointer (some ⟨bC,0,none⟩)=pC at *;have hleC:=hleB.trans (hS9.trans hS10);replace hpA:=Pt.mono (hS9.trans hS10) hpA;replace hpB:=Pt.mono (hS9.trans hS10) hpB;clear cM3 hRc hS9 hS10 hleB;have e1:=Iv (m:=m) ini ink;have e2:=TU (m:=m) ini ink ni nk;have e3:=TS (m:=m) ini hPi.1;have e4:=TV (m:=m) ini ink;rw [e1] at e2 e4;have xl:(sortR kP ((Co i k).map (FB Lqq))).length=(Co i k).length:=by rw [(E3 _).length_eq,List.length_map]
   have xp:∀ p∈sortR kP ((Co i k).map (FB Lqq)),p.2.2.2.1.length≤1000000:=fun p L=>by
    obtain ⟨r,_,rfl⟩:=List.mem_map.1 ((E3 _).mem_iff.1 L);exact R8 hok r
   have ap:∀ p∈i.map (FB Lqq),p.2.2.2.1.length≤1000000:=fun p L=>by
    obtain ⟨r,_,rfl⟩:=List.mem_map.1 L;exact R8 hok r
   have la:(i.map (FB Lqq)).length≤1000:=by rw [List.length_map];omega
   have lk:(k.map (FB Lqq)).length≤1000:=by rw [List.length_map];omega
   have lc:((Co i k).map (FB Lqq)).length≤1000:=by rw [List.length_map];exact lb
   have lh:(Lqq.map AE).length≤1000:=by rw [List.length_map];omega
   generalize sortR kP ((Co i k).map (FB Lqq))=ps at *;have d1:=fun {S':Ad} {M:List J} (w:World) (V:St S' M w) (ca cb:List Value) (hA:Z.R S' ca (EM m Lqq i)) (hB:Z.R S' cb (EM m Lqq k))=>IS w V ca _ hA cb _ hB (Nat.le_trans la (by decide)) (Nat.le_trans lk (by decide)) (Nat.le_trans lh (by decide))
   have d2:=fun {S':Ad} {M:List J} (w:World) (V:St S' M w) (ca cb:List Value) (hA:Z.R S' ca (EM m Lqq k)) (hB:Z.R S' cb (EM m Lqq i))=>IS w V ca _ hA cb _ hB (Nat.le_trans lk (by decide)) (Nat.le_trans la (by decide)) (Nat.le_trans lh (by decide))
   have d3:=fun {S':Ad} {M:List J} (w:World) (V:St S' M w) (ca cb:List Value) (hA:Z.R S' ca (EM m Lqq i)) (hB:Z.R S' cb (EM m Lqq i))=>IS w V ca _ hA cb _ hB (Nat.le_trans la (by decide)) (Nat.le_trans la (by decide)) (Nat.le_trans lh (by decide))
   have d4:=fun {S':Ad} {M:List J} (w:World) (V:St S' M w) (ca cb:List Value) (hA:Z.R S' ca (EM m Lqq (Co i k))) (hB:Z.R S' cb (EM m Lqq i))=>IS w V ca _ hA cb _ hB (Nat.le_trans lc (by decide)) (Nat.le_trans la (by decide)) (Nat.le_trans lh (by decide))
   rw [e1] at d1;rw [e2] at d2;rw [e3] at d3;rw [e4] at d4;have sX:=fun {S':Ad} {M:List J} (w:World) (V:St S' M w) (ca cb:List Value) (hA:Z.R S' ca ((m,Lqq.map AE,ps,()):Cz)) (hB:Z.R S' cb ((m,Lqq.map AE,ps,()):Cz))=>PL w V ca cb _ hA hB (Nat.le_trans lh (by decide)) (by show ps.length≤1000000;omega) xp
   have sA:=fun {S':Ad} {M:List J} (w:World) (V:St S' M w) (ca cb:List Value) (hA:Z.R S' ca (EM m Lqq i)) (hB:Z.R S' cb (EM m Lqq i))=>PL w V ca cb _ hA hB (Nat.le_trans lh (by decide)) (Nat.le_trans la (by decide)) ap
   clear e1 e2 e3 e4 xp ap la lk lc lh;obtain ⟨EA,hEA⟩:∃ E,EM m Lqq i=E:=⟨_,rfl⟩
   obtain ⟨EB,hEB⟩:∃ E,EM m Lqq k=E:=⟨_,rfl⟩
   obtain ⟨EC,hEC⟩:∃ E,EM m Lqq (Co i k)=E:=⟨_,rfl⟩
   obtain ⟨EX,hEX⟩:∃ E:Cz,(m,Lqq.map AE,ps,())=E:=⟨_,rfl⟩
   have HEX:=Lib.hid hEX;rw [hEA] at hpA d1 d2 d3 d4 sA;rw [hEB] at hpB d1 d2;rw [hEC] at hpC d4;rw [hEX] at sX d1 d2 d4;clear hEA hEB hEC hEX;repeat' (first|(apply O ();go_step)|(apply tL ();(first|(refine An V (Aw (y:=EA) X hpA Y) ?_;rintro v95 ⟨ca,rfl,hca⟩)|(refine An V (Aw (y:=EB) X hpB Y) ?_;rintro v96 ⟨cb,rfl,hcb⟩))<;>apply nZ ())|(apply kc ();refine BG (d1 _ V _ _ hca hcb) Y rfl ?_;clear V;rintro v w ⟨S11,cx,hS11,rfl,hRx,V⟩<;>apply nZ ()<;>(try replace V:=nH V))|(apply sZ ();clear V;intro bk w V)|fail)
   refine Cf V rfl N.h Y rfl hRx rfl ?_;clear V;intro w V;apply nZ ();(try replace V:=nH V);rename Nat=>bX
   repeat' ((apply ZZ 20);first|(apply O ();go_step)|fail)
   obtain ⟨S12,hS12,hst1,hpX⟩:=AC (α:=Cz) V hRx (Z.len hRx);clear V;have V:=hst1;clear hst1;generalize Value.pointer (some ⟨bX,0,none⟩)=pX at *;replace hpA:=Pt.mono (hS11.trans hS12) hpA;replace hpB:=Pt.mono (hS11.trans hS12) hpB;replace hpC:=Pt.mono (hS11.trans hS12) hpC;have hleX:=hleC.trans (hS11.trans hS12);clear hRx hS11 hS12 hleC d1 hca hcb;repeat' (first|(apply O ();go_step)|(apply tL ();(first|(refine An V (Aw (y:=EB) X hpB Y) ?_;rintro v101 ⟨cb,rfl,hcb⟩)|(refine An V (Aw (y:=EA) X hpA Y) ?_;rintro v102 ⟨ca,rfl,hca⟩))<;>apply nZ ())|(apply kc ();refine BG (d2 _ V _ _ hcb hca) Y rfl ?_;clear V;rintro v w ⟨S13,cy,hS13,rfl,hRy,V⟩<;>apply nZ ()<;>(try replace V:=nH V))|(apply sZ ();clear V;intro bk w V)|fail)
   refine Cf V rfl N.h Y rfl hRy rfl ?_;clear V;intro w V;apply nZ ();(try replace V:=nH V);rename Nat=>bY
   repeat' ((apply ZZ 21);first|(apply O ();go_step)|fail)
   obtain ⟨S14,hS14,hst1,hpY⟩:=AC (α:=Cz) V hRy (Z.len hRy);clear V;have V:=hst1;clear hst1;generalize Value.pointer (some ⟨bY,0,none⟩)=pY at *;replace hpA:=Pt.mono (hS13.trans hS14) hpA;replace hpC:=Pt.mono (hS13.trans hS14) hpC;replace hpX:=Pt.mono (hS13.trans hS14) hpX;have hleY:=hleX.trans (hS13.trans hS14);clear hRy hS13 hS14 hleX d2 hca hcb hpB;repeat' (first|(apply O ();go_step)|(apply tL ();refine An V (Aw (y:=EA) X hpA Y) ?_;rintro v107 ⟨ca,rfl,hca⟩<;>apply nZ ())|(apply kc ();refine BG (d3 _ V _ _ (by assumption) (by assumption)) Y rfl ?_;clear V;rintro v w ⟨S15,cz,hS15,rfl,hRz,V⟩<;>apply nZ ()<;>(try replace V:=nH V))|(apply sZ ();clear V;intro bk w V)|fail)
   refine Cf V rfl N.h Y rfl hRz rfl ?_;clear V;intro w V;apply nZ ();(try replace V:=nH V);rename Nat=>bZ
   repeat' ((apply ZZ 22);first|(apply O ();go_step)|fail)
   obtain ⟨S16,hS16,hst1,hpZ⟩:=AC (α:=Cz) V hRz (Z.len hRz);clear V;have V:=hst1;clear hst1;generalize Value.pointer (some ⟨bZ,0,none⟩)=pZ at *;replace hpA:=Pt.mono (hS15.trans hS16) hpA;replace hpC:=Pt.mono (hS15.trans hS16) hpC;replace hpX:=Pt.mono (hS15.trans hS16) hpX;replace hpY:=Pt.mono (hS15.trans hS16) hpY;have hleZ:=hleY.trans (hS15.trans hS16);clear hRz hS15 hS16 hleY d3 hca;repeat' (first|(apply O ();go_step)|(apply tL ();(first|(refine An V (Aw (y:=EC) X hpC Y) ?_;rintro v113 ⟨cc,rfl,hcc⟩)|(refine An V (Aw (y:=EA) X hpA Y) ?_;rintro v114 ⟨ca,rfl,hca⟩))<;>apply nZ ())|(apply kc ();refine BG (d4 _ V _ _ hcc hca) Y rfl ?_;clear V;rintro v w ⟨S17,cs,hS17,rfl,hRs,V⟩<;>apply nZ ()<;>(try replace V:=nH V))|(apply sZ ();clear V;intro bk w V)|fail)
   refine Cf V rfl N.h Y rfl hRs rfl ?_;clear V;intro w V;apply nZ ();(try replace V:=nH V);rename Nat=>bS
   repeat' ((apply ZZ 23);first|(apply O ();go_step)|fail)
   obtain ⟨S18,hS18,hst1,hpS⟩:=AC (α:=Cz) V hRs (Z.len hRs);clear V;have V:=hst1;clear hst1;generalize Value.pointer (some ⟨bS,0,none⟩)=pS at *;replace hpA:=Pt.mono (hS17.trans hS18) hpA;replace hpX:=Pt.mono (hS17.trans hS18) hpX;replace hpY:=Pt.mono (hS17.trans hS18) hpY;replace hpZ:=Pt.mono (hS17.trans hS18) hpZ;have hleS:=hleZ.trans (hS17.trans hS18);have hG18:=hG4.mono hleS;clear hRs hS17 hS18 hleZ d4 hcc hca hpC;have hB18:=hB3.mono hleS
   have hXL:((EX.2.2.1.length:Int) == ((Co i k).length:Int))=true:=by
    rw [← HEX.out];show ((ps.length:Int) == _)=true;rw [xl];exact beq_self_eq_true _
   have cSan:=fun {M} w (V:St S18 M w)=>hSan w V hG18
   repeat' (first|(apply tB ();refine Ag V (Do rfl rfl (beq_self_eq_true (0:Int))) ?_<;>apply nZ ())|apply sK ()|apply sG ()|(apply O ();go_step)|(apply tL ();(first|(refine An V (Aw (y:=EX) X hpX Y) ?_;rintro v30 ⟨c30,rfl,hc30⟩)|(refine An V (Aw (y:=EX) X hpY Y) ?_;rintro v31 ⟨c31,rfl,hc31⟩)|(refine An V (Aw (y:=EA) X hpZ Y) ?_;rintro v35 ⟨c35,rfl,hc35⟩)|(refine An V (Aw (y:=EA) X hpA Y) ?_;rintro v36 ⟨c36,rfl,hc36⟩)|(refine An V (Aw (y:=EX) X hpS Y) ?_;rintro v41 ⟨c41,rfl,hc41⟩))<;>apply nZ ())|(apply kc ();refine BG (cSan _ V) Y rfl ?_;clear V;rintro v w ⟨rfl,V⟩<;>apply nZ ()<;>(try replace V:=nH V))|(apply kc ();refine BG (sX _ V _ _ hc30 hc31) Y rfl ?_;clear V;rintro v w ⟨rfl,V⟩<;>apply nZ ()<;>(try replace V:=nH V))|(apply kc ();refine BG (sA _ V _ _ hc35 hc36) Y rfl ?_;clear V;rintro v w ⟨rfl,V⟩<;>apply nZ ()<;>(try replace V:=nH V))|(apply kc ();refine BG (sX _ V _ _ hc30 hc41) Y rfl ?_;clear V;rintro v w ⟨rfl,V⟩<;>apply nZ ()<;>(try replace V:=nH V))|(apply tL ();refine An V (Aj X Ak Y) ?_;rintro v ⟨hvl,hv1⟩<;>apply nZ ())|apply sY ()|(apply sJ ();intro v L)|fail)
   go_ret;exact ⟨_,rfl,rfl,St.weaken (hle4.trans hleS) V.drop⟩
end Go.Proofs.YtmmbidoldegemaaGreatDoor
