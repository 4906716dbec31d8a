/- Part 40 of a proof; no conditions. -/
import Derived.Test.YtmmbidoldegemaaGreatDoorZ38
set_option linter.all false
set_option maxRecDepth 8000
set_option maxHeartbeats 8000000
namespace Go.Proofs.YtmmbidoldegemaaGreatDoor
open Go.RowKit Go.Sl Go.Proofs.Tryz
theorem Wq (s x r i):Fo s (x::r) i=if decide (x.b=s.b)=true then i else Fo s r (i+1):=by
 rw [Fo];by_cases h:x=s
 ·rw [if_pos h,if_pos (by rw [h];simp)]
 ·rw [if_neg h,if_neg (by rw [← JG];simpa using h)]
theorem R7 {P S M l T F x zero bb v p} {j k n:Nat} {c} {xs:List Cv} {y} (hx:Ai l x=p) (L:JY v p (j * 1)) (hk:M[k]? = some (.sl v F 1 n c)) (hR:RL S c xs) (hT:Ty P T false 1 zero bb) (hy:xs[j]? = some y):Qt P l (.load T x) S M (.string ⟨y.b.toArray⟩):=by
 obtain ⟨u,⟨cs,rfl,h,_⟩,q⟩:=BZ (α:=Cv) hx L hk hR hT hy;subst h;exact q
theorem Pw {S M} (w so xs co) (hC:RL S co xs) (hm:xs.length≤1000000) (V:St S (.sl (Ar so) 9 1 xs.length co::M) w) (s):
  Ac prog 105 [Ar so,.string ⟨s.b.toArray⟩] w fun v w'=>v=.int .i64 (Fo s xs 0)∧St S (.sl (Ar so) 9 1 xs.length co::M) w':=by
 unfold Ac;have hone:=BE (k:=0) V rfl;obtain ⟨a0,n0,k0⟩:=so;obtain ⟨ad,cap,hso⟩:=Go.Sl.sl_formk (k:=0) V rfl;cases hso;obtain ⟨R,hR⟩:∃ R,Fo s xs 0=R:=⟨_,rfl⟩
 rw [hR];have HR:=Lib.hid hR;clear hR;go_enter func105,ntmps105;repeat' (first|(apply O ();go_step)|fail)
 go_loopw [5] (fun u5 wr=>∃ (i:Nat),i≤xs.length∧u5=.int .i64 (i:Int)∧Hid (Fo s (xs.drop i) (i:Int)=R)∧St S (.sl (.slice a0 xs.length k0) 9 1 xs.length co::M) wr) (fun v _=>xs.length - (intOf v).toNat)
 case atStart=>exact ⟨0,Nat.zero_le _,rfl,HR,V⟩
 case round =>
  clear V HR;obtain ⟨i,hi2,rfl,HR,V⟩:=hrel;by_cases hlt:i < xs.length
  ·have HN:=HR.out;rw [List.drop_eq_getElem_cons hlt,Wq] at HN;obtain ⟨z,hz⟩:∃ z,decide (xs[i].b=s.b)=z:=⟨_,rfl⟩
   rw [hz] at HN;replace HN:=Lib.hid HN;clear HR;have gA:xs[i]? = some xs[i]:=List.getElem?_eq_getElem hlt
   cases z with
   | false =>
    repeat' (first|(with_reducible (refine An V (Ao V X SlIn.h rfl Y Y Af Af) ?_;rintro v12 hp12;simp only [Int.toNat_natCast] at hp12)<;>apply nW ())|(with_reducible (refine Ag V (R7 (j:=i) X hp12 SlIn.h hC Y gA) ?_)<;>apply nW ())|(apply tB ();refine Ag V (AA rfl rfl Y hz) ?_<;>apply nW ())|(apply O ();go_step)|apply sX ()|fail)
    apply SN ()
   | true =>
    repeat' (first|(with_reducible (refine An V (Ao V X SlIn.h rfl Y Y Af Af) ?_;rintro v12 hp12;simp only [Int.toNat_natCast] at hp12)<;>apply nW ())|(with_reducible (refine Ag V (R7 (j:=i) X hp12 SlIn.h hC Y gA) ?_)<;>apply nW ())|(apply tB ();refine Ag V (AA rfl rfl Y hz) ?_<;>apply nW ())|(apply O ();go_step)|apply sX ()|fail)
    go_ret;exact ⟨_,rfl,by rw [← HN.out];rfl,V⟩
  ·have HN:=HR.out;rw [List.drop_of_length_le (by omega)] at HN;replace HN:=Lib.hid HN;repeat' (first|(apply O ();go_step)|apply sX ()|fail)
   go_ret;exact ⟨_,rfl,by rw [← HN.out];rfl,V⟩
theorem iF {S a b c} (h1:Au a) (h2:Au b) (h3:Au c):RL S [.int .i64 a,.int .i64 b,.int .i64 c] ([(a,b,c,())]:List Fg) :=
 RL.one_mk (AG (cs:=[_]) ⟨rfl,h1⟩ (AG (cs:=[_]) ⟨rfl,h2⟩ (AG (cs:=[_]) ⟨rfl,h3⟩ CM)))
abbrev Db (S:Ad) (M:List J) (xs:List Fg) (v:Value) (w:World):Prop :=
 ∃ S' so co,S.Le S'∧v=Ar so∧RL S' co xs∧St S' (.sl (Ar so) 186 3 xs.length co::M) w
theorem JR {S M} (w) (V:St S M w) (op a b) (h1:Au op) (h2:Au a) (h3:Au b):
  Ac prog 65 [.int .i64 op,.int .i64 a,.int .i64 b] w (Db S M (i1 op a b)):=by
 unfold Ac;go_enter func65,ntmps65;repeat' (first|(apply O ();go_step)|fail)
 refine Ay (vs:=[.agg #[.int .i64 op,.int .i64 a,.int .i64 b]]) V Y Y rfl rfl (by simp [Value.cells]) rfl (by omega) (by omega) ?_;clear V;intro x w V;apply nW ();repeat' (first|(apply O ();go_step)|fail)
 obtain ⟨ay,cy,rfl⟩:=Go.Sl.sl_formk (k:=0) V rfl;go_ret;exact ⟨_,rfl,S,(ay,1,cy),[.int .i64 op,.int .i64 a,.int .i64 b],Ad.Le.refl S,rfl,iF h1 h2 h3,V⟩
theorem Tx {S M} (w) (V:St S M w) (sl ls) (hl:RSl S (Ar sl) ls) (hm:ls.length≤10) (hn:∀ x∈ls,x.length≤100000):
  Ac prog 107 [Ar sl] w (Db S M ls.flatten):=by
 unfold Ac;obtain ⟨R,hR⟩:∃ R,ls.flatten=R:=⟨_,rfl⟩
 rw [hR];have HR:=Lib.hid hR;clear hR;have HN:=Lib.hid hn;clear hn;go_enter func107,ntmps107;replace V:=V.nil 186 3;repeat' (first|(apply O ();go_step)|fail)
 go_loopw [3,4] (fun u3 u4 wr=>∃ (i n:Nat) (so:Sv) (co:List Value),i≤ls.length∧n≤100000 * i∧u3=Ar so∧u4=.int .i64 (i:Int)∧Hid (n=(ls.take i).flatten.length)∧RL S co (ls.take i).flatten∧St S (.sl (Ar so) 186 3 n co::M) wr) (fun _ v _=>ls.length - (intOf v).toNat)
 case atStart=>exact ⟨0,0,(none,0,0),[],Nat.zero_le _,by omega,rfl,rfl,Lib.hid rfl,RL.nil,V⟩
 case round =>
  clear V;obtain ⟨i,n,so,co,hi2,hnb,rfl,rfl,hnl,hC,V⟩:=hrel;have hone:=BE (k:=0) V rfl;by_cases hlt:i < ls.length
  ·have hsn:Hid ((ls.take (i+1)).flatten=(ls.take i).flatten++ls[i]):=Lib.hid (by rw [List.take_succ_eq_append_getElem hlt,List.flatten_append];simp);have hxb:=HN.out ls[i] (List.getElem_mem hlt);repeat' (first|(apply O ();go_step)|apply sX ()|(apply sL ();intro v hvl hv1)|(apply sI ();intro v L)|fail)
   replace hvl:RSl S _ ls[i]:=hvl;refine Bj (α:=Fg) (k:=0) V X X SlIn.h hvl Y Y Y (by omega) (by omega) (by decide) ?_;clear V;intro x w d hd V;apply nW ();obtain ⟨ay,cy,rfl⟩:=Go.Sl.sl_formk (k:=0) V rfl;repeat' (first|(apply O ();go_step)|fail)
   go_roundw
   case rel=>exact ⟨i+1,n+ls[i].length,(ay,n+ls[i].length,cy),co++d,by omega,by omega,rfl,by go_num,Lib.hid (by rw [hsn.out,List.length_append,hnl.out]),by rw [hsn.out];exact hC.append hd,V⟩
   case measure=>simp [intOf];omega
  ·obtain rfl:i=ls.length:=by omega
   rw [List.take_length,HR.out] at hC hnl;obtain rfl:=hnl.out;repeat' (first|(apply O ();go_step)|apply sX ()|fail)
   go_ret;exact ⟨_,rfl,S,so,co,Ad.Le.refl S,rfl,hC,V⟩
theorem St.swap2 {S M w a b} (h:St S (a::b::M) w):St S (b::a::M) w:=h.move (k:=1) rfl
theorem KR {α:Type} [Z α] {S v} {xs:List α} (h:RSl S v xs) {i} (hi:i < xs.length):∃ cs,Z.R S cs xs[i]:=by
 apply jA ()
theorem gb {S v} {xs:List Ip} (h:RSl S v xs) {i} (hi:i < xs.length):xs[i].1.b.length≤maxLen:=by
 obtain ⟨cs,h⟩:=KR h hi;exact h.2.1.2
theorem fJ {S v} {xs:List Nd} (h:RSl S v xs) {i} (hi:i < xs.length):xs[i].2.2.1.b.length≤maxLen:=by
 obtain ⟨cs,h⟩:=KR h hi;exact h.2.2.2.2.2.1.2
def Ff (o:List Cv) (i:Ip):List Cv:=GZ o i.1
def DQ (o:List Cv) (x:Nd):List Cv:=if x.1=11 then GZ o x.2.2.1 else o
theorem RI (p):C0 p=p.2.1.foldl DQ (p.1.foldl Ff []):=by
 unfold C0;rw [List.foldl_filter]
 congr 1
 funext o x
 unfold DQ;by_cases h:x.1=11<;>simp [h]
theorem Q5 (o s):o.length≤(GZ o s).length∧(GZ o s).length≤o.length+1:=by
 unfold GZ;split<;>simp
theorem ML:∀ (xs:List Ip) (o:List Cv),(xs.foldl Ff o).length≤o.length+xs.length
 | [],o=>Nat.le_refl _
 | x::r,o=>by
  have h1:=ML r (Ff o x);have h2:=(Q5 o x.1).2;rw [List.foldl_cons];unfold Ff at *;simp only [List.length_cons];omega
theorem Q6:∀ (xs:List Nd) (o:List Cv),(xs.foldl DQ o).length≤o.length+xs.length
 | [],o=>Nat.le_refl _
 | x::r,o=>by
  have h1:=Q6 r (DQ o x)
  have h2:(DQ o x).length≤o.length+1:=by
   unfold DQ;split
   ·exact (Q5 o _).2
   ·omega
  rw [List.foldl_cons];simp only [List.length_cons];omega
theorem DI (p):(C0 p).length≤p.1.length+p.2.1.length:=by
 rw [RI];have h1:=Q6 p.2.1 (p.1.foldl Ff []);have h2:=ML p.1 [];simp only [List.length_nil] at h2;omega
theorem NA {α β:Type} (f:β→α→β) (b) {xs:List α} {i} (h):(xs.take (i+1)).foldl f b=f ((xs.take i).foldl f b) xs[i]:=by
 rw [List.take_succ_eq_append_getElem h,List.foldl_append];rfl
theorem Ok (s:Cv):∀ (xs:List Cv) (i:Int),0≤i→-1≤Fo s xs i∧Fo s xs i < i+xs.length
 | [],i,h=>by unfold Fo;simp only [List.length_nil];omega
 | x::r,i,h=>by
  unfold Fo;have:=Ok s r (i+1) (by omega);simp only [List.length_cons];split<;>omega
theorem VM {S} {s:Cv} (h:s.b.length≤maxLen):RL S [.string ⟨s.b.toArray⟩] [s]:=RL.one_mk ⟨rfl,h⟩
theorem UP {S M} (w) (V:St S M w) (si sn p) (L:Cm S si sn p):
  Ac prog 104 [Bo si sn p] w fun v w'=>∃ so co,v=Ar so∧RL S co (C0 p)∧St S (.sl (Ar so) 9 1 (C0 p).length co::M) w':=by
 unfold Ac;have hi:=L.i;have hn:=L.n;have hli:=L.li;have hln:=L.ln;obtain ⟨R,hR⟩:∃ R,C0 p=R:=⟨_,rfl⟩
 rw [hR];rw [RI] at hR;have HR:=Lib.hid hR;have hA1:=ML;clear hR L;generalize hxs:p.1=xs at *;generalize hns:p.2.1=ns at *;clear hxs hns;go_enter func104,ntmps104;replace V:=V.nil 9 1;repeat' (first|(apply O ();go_step)|(apply sB ();clear V;intro bx w V)|fail)
 go_loopw [3,4] (fun u3 u4 wr=>∃ (i n:Nat) (so:Sv) (co:List Value),i≤xs.length∧n≤i∧u3=Ar so∧u4=.int .i64 (i:Int)∧Hid (n=((xs.take i).foldl Ff []).length)∧RL S co ((xs.take i).foldl Ff [])∧St S (.box bx [.slice si.1 si.2.1 si.2.2,.slice sn.1 sn.2.1 sn.2.2,.int .i64 p.2.2.1,.int .i64 p.2.2.2.1] 87::.sl (Ar so) 9 1 n co::M) wr) (fun _ v _=>xs.length - (intOf v).toNat)
 case atStart=>exact ⟨0,0,(none,0,0),[],Nat.zero_le _,by omega,rfl,rfl,Lib.hid rfl,RL.nil,V⟩
 case round =>
  clear V;obtain ⟨i,n,so,co,hi2,hnb,rfl,rfl,hnl,hC,V⟩:=hrel;have hone:=BE (k:=1) V rfl;by_cases hlt:i < xs.length
  ·have hsn:Hid ((xs.take (i+1)).foldl Ff []=GZ ((xs.take i).foldl Ff []) xs[i].1):=Lib.hid (NA Ff [] hlt);generalize (xs.take i).foldl Ff []=os at *;obtain rfl:=hnl.out;have cI:=fun {M} w (V:St S (.sl (Ar so) 9 1 os.length co::M) w)=>Pw w so os co hC (by omega) V xs[i].1
   obtain ⟨z,hz⟩:∃ z,decide (Fo xs[i].1 os 0 < 0)=z:=⟨_,rfl⟩
   have hsb:=gb hi hlt
   cases z with
   | true =>
    have hsq:Hid (GZ os xs[i].1=os++[xs[i].1]):=Lib.hid (if_pos (of_decide_eq_true hz));repeat' (first|apply sK ()|(apply O ();go_step)|(apply kc ();refine sc (cI _ (St.swap2 V)) ?_;clear V;rintro v w ⟨rfl,V⟩)|(apply tL ();refine An V (AO X Ak Y) ?_;rintro v ⟨rfl,hs⟩<;>apply nW ())|apply sX ()|(apply sI ();intro v L)|fail)
    replace V:=St.swap2 V;refine Ay (vs:=[(.string ⟨xs[i].1.b.toArray⟩)]) V Y Y rfl rfl (by simp [Value.cells]) rfl (by omega) (by omega) ?_;clear V;intro u w V;simp only [List.set_cons_succ,List.set_cons_zero,AB,Ap,List.drop_succ_cons,List.drop_zero,List.take_succ_cons,List.take_zero,Bq,Int.toNat_zero,Int.reduceToNat,Nat.mul_one,Nat.zero_add,Nat.add_zero,Nat.reduceMul,Nat.reduceAdd,Nat.zero_mul,Int.reduceSub,Int.reduceAdd,Int.reduceMul,Int.reduceNeg,Bool.not_true,Bool.not_false];apply uC ();clear V;intro v' w V;simp only [List.set_cons_succ,List.set_cons_zero,AB,Ap,List.drop_succ_cons,List.drop_zero,List.take_succ_cons,List.take_zero,Bq,Int.toNat_zero,Int.reduceToNat,Nat.mul_one,Nat.zero_add,Nat.add_zero,Nat.reduceMul,Nat.reduceAdd,Nat.zero_mul,Int.reduceSub,Int.reduceAdd,Int.reduceMul,Int.reduceNeg,Bool.not_true,Bool.not_false];(try replace V:=nH V);replace V:=V.drop;obtain ⟨ay,cy,rfl⟩:=Go.Sl.sl_formk (k:=1) V rfl;apply nW ();repeat' (first|(apply O ();go_step)|fail)
    go_roundw
    case rel=>exact ⟨i+1,os.length+1,(ay,os.length+1,cy),co++[.string ⟨xs[i].1.b.toArray⟩],by omega,by omega,rfl,by go_num,Lib.hid (by rw [hsn.out,hsq.out,List.length_append];rfl),by rw [hsn.out,hsq.out];exact hC.append (VM hsb),V⟩
    case measure=>simp [intOf];omega
   | false =>
    have hsq:Hid (GZ os xs[i].1=os):=Lib.hid (if_neg (of_decide_eq_false hz));repeat' (first|apply sK ()|(apply O ();go_step)|(apply kc ();refine sc (cI _ (St.swap2 V)) ?_;clear V;rintro v w ⟨rfl,V⟩)|(apply tL ();refine An V (AO X Ak Y) ?_;rintro v ⟨rfl,hs⟩<;>apply nW ())|apply sX ()|(apply sI ();intro v L)|fail)
    go_roundw
    case rel=>exact ⟨i+1,os.length,so,co,by omega,by omega,rfl,by go_num,Lib.hid (by rw [hsn.out,hsq.out]),by rw [hsn.out,hsq.out];exact hC,St.swap2 V⟩
    case measure=>simp [intOf];omega
  ·obtain rfl:i=xs.length:=by omega
   rw [List.take_length] at hC hnl;have hb1:=hA1 xs [];obtain ⟨Oqq,hO⟩:∃ Oqq,xs.foldl Ff []=Oqq:=⟨_,rfl⟩
   have HR2:Hid (ns.foldl DQ Oqq=R):=Lib.hid (by rw [← hO];exact HR.out);rw [hO] at hC hnl hb1;simp only [List.length_nil] at hb1;clear hO HR hA1;obtain rfl:=hnl.out;repeat' (first|(apply O ();go_step)|apply sX ()|fail)
   go_loopw [3,5] (fun u3 u5 wr=>∃ (i n:Nat) (so:Sv) (co:List Value),i≤ns.length∧n≤Oqq.length+i∧u3=Ar so∧u5=.int .i64 (i:Int)∧Hid (n=((ns.take i).foldl DQ Oqq).length)∧RL S co ((ns.take i).foldl DQ Oqq)∧St S (.box bx [.slice si.1 si.2.1 si.2.2,.slice sn.1 sn.2.1 sn.2.2,.int .i64 p.2.2.1,.int .i64 p.2.2.2.1] 87::.sl (Ar so) 9 1 n co::M) wr) (fun _ v _=>ns.length - (intOf v).toNat)
   case atStart=>exact ⟨0,Oqq.length,so,co,Nat.zero_le _,by omega,rfl,rfl,Lib.hid rfl,hC,V⟩
   case round =>
    clear V hC;rename_i so0 co0 hone0;obtain ⟨i,n,so,co,hi3,hnb2,rfl,rfl,hnl,hC,V⟩:=hrel;have hone:=BE (k:=1) V rfl;by_cases hlt2:i < ns.length
    ·have hsn:Hid ((ns.take (i+1)).foldl DQ Oqq=DQ ((ns.take i).foldl DQ Oqq) ns[i]):=Lib.hid (NA DQ Oqq hlt2);generalize (ns.take i).foldl DQ Oqq=os at *;obtain rfl:=hnl.out;have cI:=fun {M} w (V:St S (.sl (Ar so) 9 1 os.length co::M) w)=>Pw w so os co hC (by omega) V ns[i].2.2.1
     obtain ⟨z,hz⟩:∃ z,decide (Fo ns[i].2.2.1 os 0 < 0)=z:=⟨_,rfl⟩
     obtain ⟨z1,hz1⟩:∃ z,(ns[i].1 == 11)=z:=⟨_,rfl⟩
     have hsb:=fJ hn hlt2
     cases z1 with
     | false =>
      have hsq:Hid (DQ os ns[i]=os):=Lib.hid (if_neg (beq_eq_false_iff_ne.1 hz1));repeat' (first|apply sK ()|apply sG ()|(apply O ();go_step)|apply sX ()|(apply sN ();intro hI)|(apply sI ();intro v L)|fail)
      go_roundw
      case rel=>exact ⟨i+1,os.length,so,co,by omega,by omega,rfl,by go_num,Lib.hid (by rw [hsn.out,hsq.out]),by rw [hsn.out,hsq.out];exact hC,V⟩
      case measure=>simp [intOf];omega
     | true =>
      have hsq0:Hid (DQ os ns[i]=GZ os ns[i].2.2.1):=Lib.hid (if_pos (beq_iff_eq.1 hz1))
      cases z with
      | true =>
       have hsq:Hid (GZ os ns[i].2.2.1=os++[ns[i].2.2.1]):=Lib.hid (if_pos (of_decide_eq_true hz));repeat' (first|apply sK ()|apply sG ()|(apply O ();go_step)|(apply kc ();refine sc (cI _ (St.swap2 V)) ?_;clear V;rintro v w ⟨rfl,V⟩)|(apply tL ();refine An V (AO X Ak Y) ?_;rintro v ⟨rfl,hs⟩<;>apply nW ())|apply sX ()|(apply sN ();intro hI)|(apply sI ();intro v L)|fail)
       replace V:=St.swap2 V;refine Ay (vs:=[(.string ⟨ns[i].2.2.1.b.toArray⟩)]) V Y Y rfl rfl (by simp [Value.cells]) rfl (by omega) (by omega) ?_;clear V;intro u w V;simp only [List.set_cons_succ,List.set_cons_zero,AB,Ap,List.drop_succ_cons,List.drop_zero,List.take_succ_cons,List.take_zero,Bq,Int.toNat_zero,Int.reduceToNat,Nat.mul_one,Nat.zero_add,Nat.add_zero,Nat.reduceMul,Nat.reduceAdd,Nat.zero_mul,Int.reduceSub,Int.reduceAdd,Int.reduceMul,Int.reduceNeg,Bool.not_true,Bool.not_false];apply uC ();clear V;intro v' w V;simp only [List.set_cons_succ,List.set_cons_zero,AB,Ap,List.drop_succ_cons,List.drop_zero,List.take_succ_cons,List.take_zero,Bq,Int.toNat_zero,Int.reduceToNat,Nat.mul_one,Nat.zero_add,Nat.add_zero,Nat.reduceMul,Nat.reduceAdd,Nat.zero_mul,Int.reduceSub,Int.reduceAdd,Int.reduceMul,Int.reduceNeg,Bool.not_true,Bool.not_false];(try replace V:=nH V);replace V:=V.drop;obtain ⟨ay,cy,rfl⟩:=Go.Sl.sl_formk (k:=1) V rfl;apply nW ();repeat' (first|(apply O ();go_step)|fail)
       go_roundw
       case rel=>exact ⟨i+1,os.length+1,(ay,os.length+1,cy),co++[.string ⟨ns[i].2.2.1.b.toArray⟩],by omega,by omega,rfl,by go_num,Lib.hid (by rw [hsn.out,hsq0.out,hsq.out,List.length_append];rfl),by rw [hsn.out,hsq0.out,hsq.out];exact hC.append (VM hsb),V⟩
       case measure=>simp [intOf];omega
      | false =>
       have hsq:Hid (GZ os ns[i].2.2.1=os):=Lib.hid (if_neg (of_decide_eq_false hz));repeat' (first|apply sK ()|apply sG ()|(apply O ();go_step)|(apply kc ();refine sc (cI _ (St.swap2 V)) ?_;clear V;rintro v w ⟨rfl,V⟩)|(apply tL ();refine An V (AO X Ak Y) ?_;rintro v ⟨rfl,hs⟩<;>apply nW ())|apply sX ()|(apply sN ();intro hI)|(apply sI ();intro v L)|fail)
       go_roundw
       case rel=>exact ⟨i+1,os.length,so,co,by omega,by omega,rfl,by go_num,Lib.hid (by rw [hsn.out,hsq0.out,hsq.out]),by rw [hsn.out,hsq0.out,hsq.out];exact hC,St.swap2 V⟩
       case measure=>simp [intOf];omega
    ·obtain rfl:i=ns.length:=by omega
     rw [List.take_length,HR2.out] at hC hnl;obtain rfl:=hnl.out;repeat' (first|(apply O ();go_step)|apply sX ()|fail)
     go_ret;exact ⟨_,rfl,so,co,rfl,hC,V.drop⟩
theorem ZI (p) {k} (h):D9 p (k+1)=D9 p k+(if p.2.1[k].1=13 then 1 else 0):=by
 unfold D9;rw [List.take_succ_eq_append_getElem h,List.filter_append,List.length_append];by_cases h2:p.2.1[k].1=13<;>simp [h2]<;>omega
theorem QW (p k) (hi:p.1.length≤100000) (hn:p.2.1.length≤100000):0≤D9 p k∧D9 p k≤300000:=by
 unfold D9;have h1:=DI p;have h2:((p.2.1.take k).filter fun x=>decide (x.1=13)).length≤p.2.1.length:=Nat.le_trans (List.length_filter_le _ _) (by rw [List.length_take];omega);omega
theorem WN {S M} (w) (V:St S M w) (si sn p) (L:Cm S si sn p) (k) (hk:k≤p.2.1.length):
  Ac prog 63 [Bo si sn p,.int .i64 (k:Int)] w fun v w'=>v=.int .i64 (D9 p k)∧St S M w':=by
 unfold Ac;have hn:=L.n;have hln:=L.ln;have hlv:=DI p;have hli:=L.li;have hb:=fun j=>QW p j L.li L.ln
 have hcs:=fun {j:Nat} (h:j < p.2.1.length)=>ZI p h
 have hc0:D9 p 0=((C0 p).length:Int):=by unfold D9;simp
 have cV:=fun {M} w (V:St S M w)=>UP w V si sn p L
 generalize hns:p.2.1=ns at *;generalize C0 p=vs at *;generalize hcn:D9 p=cn at *;have HP:=Lib.hid L;have HB:=Lib.hid hb;have HS:=Lib.hid (fun j h=>@hcs j h);clear L hns hcn hb hcs;go_enter func63,ntmps63;repeat' (first|(apply O ();go_step)|(apply kc ();refine sc (cV _ V) ?_;clear V;rintro v w ⟨so,co,rfl,hC,V⟩)|apply sX ()|(apply sB ();clear V;intro bx w V)|fail)
 replace V:=V.drop
 go_loopw [5,6] (fun u5 u6 wr=>∃ (i:Nat),i≤k∧u5=.int .i64 (cn i)∧u6=.int .i64 (i:Int)∧St S (.box bx [.slice si.1 si.2.1 si.2.2,.slice sn.1 sn.2.1 sn.2.2,.int .i64 p.2.2.1,.int .i64 p.2.2.2.1] 87::M) wr) (fun _ v _=>k - (intOf v).toNat)
 case atStart=>exact ⟨0,Nat.zero_le _,by rw [hc0],rfl,V⟩
 case round =>
  clear V;obtain ⟨i,hi2,rfl,rfl,V⟩:=hrel;by_cases hlt:i < k
  ·have hx:=HB.out i;have hlt2:i < ns.length:=by omega
   have hs:=Lib.hid (HS.out i hlt2);generalize cn i=c at *;obtain ⟨z,hz⟩:∃ z,(ns[i].1 == 13)=z:=⟨_,rfl⟩
   cases z with
   | true =>
    have hs2:=Lib.hid (hs.out.trans (congrArg (c + ·) (if_pos (beq_iff_eq.1 hz))));repeat' (first|apply sK ()|(apply O ();go_step)|apply sX ()|(apply sN ();intro hI)|(apply sI ();intro v L)|fail)
    go_roundw
    case rel=>exact ⟨i+1,by omega,by rw [hs2.out],by go_num,V⟩
    case measure=>simp [intOf];omega
   | false =>
    have hs2:=Lib.hid (hs.out.trans (congrArg (c + ·) (if_neg (beq_eq_false_iff_ne.1 hz))));repeat' (first|apply sK ()|(apply O ();go_step)|apply sX ()|(apply sN ();intro hI)|(apply sI ();intro v L)|fail)
    go_roundw
    case rel=>exact ⟨i+1,by omega,by rw [hs2.out,Int.add_zero],by go_num,V⟩
    case measure=>simp [intOf];omega
  ·obtain rfl:i=k:=by omega
   repeat' (first|(apply O ();go_step)|fail)
   go_ret;exact ⟨_,rfl,rfl,V.drop⟩
def Bp (ns:List Nd):Nat→Int→Nat
 | 0,_=>0
 | f+1,k=>1+((Az ns k).2.2.2.1.map (Bp ns f)).sum
theorem RH {ns:List Nd} {rec:Int→Wk→Wk} {vs:Int→Nat} {k:Int} (h:∀ o w,w.2.2=false→(rec o w).2.2=false→(rec o w).1=w.1+(vs o:Int)) :
  ∀ (os cs:List Int) (w:Wk),w.2.2=false→(Ca rec ns k os cs w).1.2.2=false→(Ca rec ns k os cs w).2=false→cs.length=os.length→(Ca rec ns k os cs w).1.1=w.1+((os.map vs).sum:Nat)
 | [],cs,w,hw,h1,h2,hl=>by
  have e:Ca rec ns k [] cs w=(w,false):=by cases cs<;>rfl
  rw [e];simp
 | o::os,[],w,hw,h1,h2,hl=>by simp at hl
 | o::os,c::cs,w,hw,h1,h2,hl=>by
  rw [Ca,if_neg (by rw [hw];decide)] at h1 h2 ⊢;by_cases hc:o < 0∨k≤o∨Ea (Az ns o).1≠c
  ·rw [if_pos hc] at h1;cases h1
  ·rw [if_neg hc] at h1 h2 ⊢
   cases hbo:(rec o w).2.2 with
   | true =>
    have e:Ca rec ns k os cs (rec o w)=(rec o w,false):=by
     apply ju ()
    rw [e,hbo] at h1;cases h1
   | false =>
    have ih:=RH h os cs (rec o w) hbo h1 h2 (by simpa using hl);rw [ih,h o w hw hbo,List.map_cons,List.sum_cons];omega
theorem Pz {ns:List Nd} {rec:Int→Wk→Wk} {k:Int}:∀ (os cs:List Int) (w:Wk),(Ca rec ns k os cs w).2=true→(Ca rec ns k os cs w).1.2.2=true
 | [],cs,w,h=>by
  have e:Ca rec ns k [] cs w=(w,false):=by cases cs<;>rfl
  rw [e] at h;cases h
 | o::os,[],w,h=>by rw [Ca] at h<;>cases h
 | o::os,c::cs,w,h=>by
  rw [Ca] at h ⊢;split at h
  ·cases h
  ·rename_i h1;rw [if_neg h1];split at h
   ·rename_i h2;rw [if_pos h2]
   ·rename_i h2;rw [if_neg h2];exact Pz os cs _ h
theorem UM {ns:List Nd}:∀ (f:Nat) (k:Int) (w:Wk),w.2.2=false→(El ns f k w).2.2=false→(El ns f k w).1=w.1+(Bp ns f k:Int)
 | 0,k,w,hw,hr=>by cases hr
 | f+1,k,w,hw,hr=>by
  rw [El] at hr ⊢;by_cases hc:Ea (Az ns k).1=0∨(EW (Az ns k).1 (Az ns k).2.2.2.1.length).length≠(Az ns k).2.2.2.1.length∨((Az ns k).1=12∧(Az ns k).2.1≠w.2.1)
  ·rw [if_pos hc] at hr;cases hr
  ·rw [if_neg hc] at hr ⊢;have hlen:(EW (Az ns k).1 (Az ns k).2.2.2.1.length).length=(Az ns k).2.2.2.1.length:=Decidable.byContradiction fun e=>hc (.inr (.inl e))
   have Lqq:=RH (ns:=ns) (rec:=El ns f) (vs:=Bp ns f) (k:=k) (fun o w h1 h2=>UM f o w h1 h2) (Az ns k).2.2.2.1 (EW (Az ns k).1 (Az ns k).2.2.2.1.length) (w.1,if (Az ns k).1=12 then w.2.1+1 else w.2.1,w.2.2) hw;simp only at hr Lqq ⊢;generalize hW:Ca (El ns f) ns k (Az ns k).2.2.2.1 (EW (Az ns k).1 (Az ns k).2.2.2.1.length) (w.1,if (Az ns k).1=12 then w.2.1+1 else w.2.1,w.2.2)=r at *;by_cases hg:r.2=true
   ·have B:=Pz (ns:=ns) (rec:=El ns f) (k:=k) (Az ns k).2.2.2.1 (EW (Az ns k).1 (Az ns k).2.2.2.1.length) (w.1,if (Az ns k).1=12 then w.2.1+1 else w.2.1,w.2.2);rw [hW] at B;rw [if_pos hg,B hg] at hr;cases hr
   ·rw [if_neg hg] at hr ⊢;simp only [Bool.or_eq_false_iff] at hr;have:=Lqq hr.1 (by simpa using hg) hlen;rw [Bp];simp only;omega
theorem XN (vs:Int→Nat) {os:List Int} {i} (h):((os.take i).map vs).sum+vs os[i]≤(os.map vs).sum:=by
 have h1:os.take i++os.drop i=os:=List.take_append_drop i os
 have h2:((os.take i).map vs).sum+((os.drop i).map vs).sum=(os.map vs).sum:=by
  rw [← List.sum_append,← List.map_append,h1]
 rw [List.drop_eq_getElem_cons h,List.map_cons,List.sum_cons] at h2;omega
theorem PB {p} (hw:Cl p):Bp p.2.1 (p.2.1.length+1) ((p.2.1.length:Int) - 1)=p.2.1.length:=by
 have h:=UM (ns:=p.2.1) (p.2.1.length+1) ((p.2.1.length:Int) - 1) (0,0,false) rfl (by rw [hw.wk]);rw [hw.wk] at h;simp only at h;omega
theorem Hl {ns:List Nd} {f k} (hk:k < ns.length) {i} (hi:i < (ns[k]).2.2.2.1.length):(((ns[k]).2.2.2.1.take i).map (Bp ns f)).sum+Bp ns f ((ns[k]).2.2.2.1[i])+1≤Bp ns (f+1) k:=by
 rw [Bp,Be hk];have:=XN (Bp ns f) hi;omega
theorem Gk (rec:Int→Int→List Fg) (vs:Int→Nat):∀ (os:List Int) (pos:Int) (out:List Fg),(∀ o∈os,∀ q,(rec o q).length≤4 * vs o)→(Bz rec os pos out).length≤out.length+4 * (os.map vs).sum
 | [],pos,out,h=>by rw [Bz];simp
 | o::os,pos,out,h=>by
  rw [Bz];have h1:=Gk rec vs os pos (out++rec o (pos+out.length)) (fun x hx=>h x (List.mem_cons_of_mem _ hx));have h2:=h o List.mem_cons_self (pos+out.length);rw [List.length_append] at h1;rw [List.map_cons,List.sum_cons];omega
theorem Ns (rec:Int→Int→List Fg):∀ (os:List Int) (o pos:Int) (out:List Fg),Bz rec (os++[o]) pos out=Bz rec os pos out++rec o (pos+(Bz rec os pos out).length)
 | [],o,pos,out=>rfl
 | x::os,o,pos,out=>by
  rw [List.cons_append,Bz,Bz,Ns rec os o pos]
theorem Mv {p:Pg} (hw:Cl p):∀ (f:Nat) (k:Nat) (pos:Int),k < p.2.1.length→(AH p f k pos).length≤4 * Bp p.2.1 f k
 | 0,k,pos,hk=>Nat.zero_le _
 | f+1,k,pos,hk=>by
  have ih:∀ i (hi:i < (p.2.1[k]).2.2.2.1.length) q,(AH p f (p.2.1[k]).2.2.2.1[i] q).length≤4 * Bp p.2.1 f (p.2.1[k]).2.2.2.1[i]:=fun i hi q=>by
   obtain ⟨o,a,b,d⟩:=Ch hw hk hi;rw [b];exact Mv hw f o q (by omega)
  have io:∀ i (hi:i < (p.2.1[k]).2.2.2.1.length) q,(AH p f (AU p.2.1[k] i) q).length≤4 * Bp p.2.1 f (p.2.1[k]).2.2.2.1[i]:=fun i hi q=>by
   have e:AU p.2.1[k] i=(p.2.1[k]).2.2.2.1[i]:=by unfold AU;rw [List.getD_eq_getElem?_getD,List.getElem?_eq_getElem hi];rfl
   rw [e];exact ih i hi q
  have ar:=@NO p hw k hk;have arr:=LR hw hk;rw [AH,Bp,Be hk];simp only;generalize p.2.1[k]=n at *
  have hm:=Gk (AH p f) (Bp p.2.1 f) n.2.2.2.1 pos [] (fun o ho q=>by
   obtain ⟨i,hi,rfl⟩:=List.getElem_of_mem ho;exact ih i hi q)
  simp only [List.length_nil] at hm;split
  ·show 1≤_;omega
  ·split
   ·show 1≤_;omega
   ·split
    ·have ha:=ar (by assumption);have hl:n.2.2.2.1.length=2∨n.2.2.2.1.length=3:=by omega
     rcases hl with hl|hl
     ·rw [if_pos hl]
      match hos:n.2.2.2.1,hl with
      | [a,b],_ =>
       simp only [hos] at io;have h0:=io 0 (by simp) pos;have h1:=io 1 (by simp) (pos+(AH p f (AU n 0) pos).length+1);simp only [List.getElem_cons_zero,List.getElem_cons_succ] at h0 h1;apply gT ()
     ·rw [if_neg (by omega)]
      match hos:n.2.2.2.1,hl with
      | [a,b,c],_ =>
       simp only [hos] at io;have h0:=io 0 (by simp) pos;have h1:=io 1 (by simp) (pos+(AH p f (AU n 0) pos).length+1);have h2:=io 2 (by simp) (pos+(AH p f (AU n 0) pos).length+1+(AH p f (AU n 1) (pos+(AH p f (AU n 0) pos).length+1)).length+1);simp only [List.getElem_cons_zero,List.getElem_cons_succ] at h0 h1 h2;apply gT ()
    ·split
     ·have hl:n.2.2.2.1.length=1:=by
       unfold EW at arr;rw [if_neg (by omega),if_neg (by omega),if_neg (by omega),if_pos (by assumption)] at arr;exact arr.symm
      match hos:n.2.2.2.1,hl with
      | [a],_ =>
       simp only [hos] at io;have h0:=io 0 (by simp) (pos+2);simp only [List.getElem_cons_zero] at h0;apply gT ()
     ·split
      ·show 1≤_;omega
      ·split
       ·show 1≤_;omega
       ·repeat' split
        all_goals
         (try simp only [List.length_append,i1,List.length_cons,List.length_nil]);omega
end Go.Proofs.YtmmbidoldegemaaGreatDoor
