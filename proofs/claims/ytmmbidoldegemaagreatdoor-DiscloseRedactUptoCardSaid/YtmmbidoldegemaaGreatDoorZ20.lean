/- Part 21 of a proof; no conditions. -/
import Derived.Test.YtmmbidoldegemaaGreatDoorZ19
set_option linter.all false
set_option maxRecDepth 8000
set_option maxHeartbeats 8000000
namespace Go.Proofs.YtmmbidoldegemaaGreatDoor
open Go.RowKit Go.Sl Go.Proofs.Tryz
abbrev jb (S:Ad) (M:List J) (r:Bool) (v:Value) (w:World):Prop:=∃ S',S.Le S'∧v=.bool r∧St S' M w
theorem gt {p} (h:p.2.1.length=0∨p.2.1.length > 400∨p.2.2.1≠(p.2.1.length:Int) - 1):CV p=false:=by
 unfold CV;simp only;rw [if_pos h]
theorem gr {p} (h:¬ (p.2.1.length=0∨p.2.1.length > 400∨p.2.2.1≠(p.2.1.length:Int) - 1)) (h2:(Az p.2.1 ((p.2.1.length:Int) - 1)).1≠17):CV p=false:=by
 unfold CV;simp only;rw [if_neg h,if_pos h2]
theorem gq {p} (h:¬ (p.2.1.length=0∨p.2.1.length > 400∨p.2.2.1≠(p.2.1.length:Int) - 1)) (h2:¬ (Az p.2.1 ((p.2.1.length:Int) - 1)).1≠17) (h3:p.1.any (fun i=>decide (i.2.1 < 1∨i.2.1 > 4))=true):CV p=false:=by
 unfold CV;simp only;rw [if_neg h,if_neg h2,if_pos h3]
theorem gp {p} (h:¬ (p.2.1.length=0∨p.2.1.length > 400∨p.2.2.1≠(p.2.1.length:Int) - 1)) (h2:¬ (Az p.2.1 ((p.2.1.length:Int) - 1)).1≠17) (h3:p.1.any (fun i=>decide (i.2.1 < 1∨i.2.1 > 4))=false):CV p=(!(El p.2.1 (p.2.1.length+1) ((p.2.1.length:Int) - 1) (0,0,false)).2.2 && decide ((El p.2.1 (p.2.1.length+1) ((p.2.1.length:Int) - 1) (0,0,false)).1=(p.2.1.length:Int)) && decide ((El p.2.1 (p.2.1.length+1) ((p.2.1.length:Int) - 1) (0,0,false)).2.1=p.2.2.2.1)):=by
 unfold CV;simp only;rw [if_neg h,if_neg h2,if_neg (by rw [h3];decide)]
theorem QA {S M} (w) (V:St S M w) (si sn p) (L:Cm S si sn p):
  Ac prog 66 [Bo si sn p] w (jb S M (CV p)):=by
 unfold Ac;have hn:=L.n;have hi:=L.i;have hln:=L.ln;have hli:=L.li;have hroot:p.2.2.1=p.2.2.1:=rfl;by_cases h1:p.2.1.length=0∨p.2.1.length > 400∨p.2.2.1≠(p.2.1.length:Int) - 1
 ·have HR:=Lib.hid (gt h1);obtain ⟨z1,hz1⟩:∃ z,((p.2.1.length:Int) == 0)=z:=⟨_,rfl⟩
  obtain ⟨z2,hz2⟩:∃ z,decide ((p.2.1.length:Int) > 400)=z:=⟨_,rfl⟩
  obtain ⟨z3,hz3⟩:∃ z,(p.2.2.1 != (p.2.1.length:Int) - 1)=z:=⟨_,rfl⟩
  have hc:z1=true∨(z1=false∧z2=true)∨(z1=false∧z2=false∧z3=true):=by
   rcases h1 with h|h|h
   ·left;rw [← hz1,h];rfl
   ·cases z1
    ·right;left;exact ⟨rfl,by rw [← hz2];exact decide_eq_true (by omega)⟩
    ·exact .inl rfl
   ·cases z1
    ·cases z2
     ·right;right;exact ⟨rfl,rfl,by rw [← hz3];simpa using h⟩
     ·exact .inr (.inl ⟨rfl,rfl⟩)
    ·exact .inl rfl
  clear h1 hroot;rcases hc with rfl|⟨rfl,rfl⟩|⟨rfl,rfl,rfl⟩
  all_goals
   go_enter func66,ntmps66;repeat' (first|go_skip|apply sK ()|apply sG ()|(apply O ();go_step)|apply sX ()|(apply sB ();clear V;intro bx w V)|fail)
   go_ret;exact ⟨_,rfl,S,.refl _,by rw [HR.out];rfl,V.sub⟩
 ·have hn0:0 < p.2.1.length:=by omega
  have hn4:p.2.1.length≤400:=by omega
  have hrt:p.2.2.1=(p.2.1.length:Int) - 1:=by omega
  obtain ⟨k,hk⟩:∃ k,k+1≤p.2.1.length∧p.2.1.length≤k+1:=⟨p.2.1.length - 1,by omega,by omega⟩
  have hkl:k < p.2.1.length:=by omega
  have hkk:(p.2.1.length:Int) - 1=(k:Int):=by omega
  have hx:=Be hkl;by_cases h2:(Az p.2.1 ((p.2.1.length:Int) - 1)).1≠17
  ·have HR:=Lib.hid (gr h1 h2);rw [hkk,hx] at h2;have hz1:((p.2.1.length:Int) == 0)=false:=beq_eq_false_iff_ne.2 (by omega);have hz3:(p.2.2.1 != (p.2.1.length:Int) - 1)=false:=by rw [hrt];simp
   have hz4:∀ j (hj:j < p.2.1.length),j=k→((p.2.1[j]).1 != 17)=true:=fun j hj e=>by subst e;simpa using h2
   have hj:((p.2.1.length:Int) - 1).toNat < p.2.1.length:=by omega
   have hz5:=hz4 ((p.2.1.length:Int) - 1).toNat hj (by omega);clear h1 hroot h2 hx hkk hrt hz4;go_enter func66,ntmps66;repeat' (first|apply sG ()|(with_reducible refine Sl.k_guard ?_;refine Sl.guard_cases rfl ?_ ?_<;>intro hg<;>first|exact gX|(simp only [hg,Bool.not_true,Bool.not_false])<;>(try replace hg:=gN hg)<;>apply nW ())|apply sK ()|(apply O ();go_step)|apply sX ()|(apply sN ();intro hI)|(apply sI ();intro v L)|(apply sB ();clear V;intro bx w V)|fail)
   go_ret;exact ⟨_,rfl,S,.refl _,by rw [HR.out];rfl,V.sub⟩
  ·have hz1:((p.2.1.length:Int) == 0)=false:=beq_eq_false_iff_ne.2 (by omega);have hz3:(p.2.2.1 != (p.2.1.length:Int) - 1)=false:=by rw [hrt];simp
   have hz4:∀ j (hj:j < p.2.1.length),j=k→((p.2.1[j]).1 != 17)=false:=fun j hj e=>by
    subst e;rw [hkk,hx] at h2
    simpa using h2
   have hj:((p.2.1.length:Int) - 1).toNat < p.2.1.length:=by omega
   have hz5:=hz4 ((p.2.1.length:Int) - 1).toNat hj (by omega);have F3:=fun h=>Lib.hid (gq h1 h2 h)
   have F4:=fun h=>Lib.hid (gp h1 h2 h)
   rw [hkk] at F4;have HK:=Lib.hid hkk;clear h1 hroot h2 hx hkk hrt hz4;obtain ⟨R,hR⟩:∃ R,CV p=R:=⟨_,rfl⟩
   rw [hR] at F3 F4;rw [hR];clear hR;have HP:=Lib.hid L;clear L;generalize hxs:p.1=xs at *;go_enter func66,ntmps66;repeat' ((apply ZZ 6);first|apply sG ()|(with_reducible refine Sl.k_guard ?_;refine Sl.guard_cases rfl ?_ ?_<;>intro hg<;>first|exact gX|(simp only [hg,Bool.not_true,Bool.not_false])<;>(try replace hg:=gN hg)<;>apply nW ())|apply sK ()|(apply O ();go_step)|apply sX ()|(apply sN ();intro hI)|(apply sI ();intro v L)|(apply sB ();clear V;intro bx w V)|fail)
   clear hz1 hz3 hz5;repeat' (first|(apply O ();go_step)|fail)
   go_loopw [4] (fun u4 wr=>∃ (i:Nat),i≤xs.length∧u4=.int .i64 (i:Int)∧Hid ((xs.take i).any (fun i=>decide (i.2.1 < 1∨i.2.1 > 4))=false)∧St S (.box bx [.slice si.1 si.2.1 si.2.2,.slice sn.1 sn.2.1 sn.2.2,.int .i64 p.2.2.1,.int .i64 p.2.2.2.1] 87::M) wr) (fun v _=>xs.length - (intOf v).toNat)
   case atStart=>exact ⟨0,Nat.zero_le _,rfl,Lib.hid rfl,V⟩
   case round =>
    clear V;obtain ⟨i,hi2,rfl,hno,V⟩:=hrel;by_cases hlt:i < xs.length
    ·obtain ⟨z1,hz1⟩:∃ z,decide (xs[i].2.1 < 1)=z:=⟨_,rfl⟩
     obtain ⟨z2,hz2⟩:∃ z,decide (xs[i].2.1 > 4)=z:=⟨_,rfl⟩
     have hnx:=Lib.hid (MI (fun i:Ip=>decide (i.2.1 < 1∨i.2.1 > 4)) xs hlt);have hq:Hid (decide (xs[i].2.1 < 1∨xs[i].2.1 > 4)=(z1 || z2)):=Lib.hid (by rw [← hz1,← hz2];simp);have kz:z1=true∨(z1=false∧z2=true)∨(z1=false∧z2=false):=by cases z1<;>cases z2<;>simp
     rcases kz with rfl|⟨rfl,rfl⟩|⟨rfl,rfl⟩
     ·have HR:=F3 (by
       have h:=hnx.out;rw [hq.out,Bool.true_or,Bool.or_true] at h;exact Hh h)
      clear F3 F4;apply jM ()
     ·have HR:=F3 (by
       have h:=hnx.out;rw [hq.out,Bool.or_true,Bool.or_true] at h;exact Hh h)
      clear F3 F4;apply jM ()
     ·repeat' (first|apply sK ()|apply sG ()|(apply O ();go_step)|apply sX ()|(apply sN ();intro hI)|(apply sI ();intro v L)|fail)
      go_roundw
      case rel=>exact ⟨i+1,by omega,by go_num,Lib.hid (by rw [hnx.out,hno.out,hq.out];rfl),V⟩
      case measure=>simp [intOf];omega
    ·have HR:=F4 (by
      have h:=hno.out;rwa [List.take_of_length_le (by omega)] at h)
     clear F3 F4 hno;have bB:=KG (ns:=p.2.1) (p.2.1.length+1) (k:Int) (0,0,false) (by omega) rfl;have cW:=fun {M} w (V:St S M w)=>PA p (p.2.1.length+1) w si sn k (0,0,false) V HP.out (by omega) (by omega) rfl ⟨Int.le_refl _,by show (0:Int)≤1000000;omega⟩ ⟨Int.le_refl _,by show (0:Int)≤0+(1000000 - (k:Int));omega⟩
     generalize El p.2.1 (p.2.1.length+1) (k:Int) (0,0,false)=r at *;rw [← HK.out] at cW;clear bB;obtain ⟨a,b,c⟩:=r;obtain ⟨z1,hz1⟩:∃ z,(a == (p.2.1.length:Int))=z:=⟨_,rfl⟩
     obtain ⟨z2,hz2⟩:∃ z,(b == p.2.2.2.1)=z:=⟨_,rfl⟩
     have HR:Hid (R=(!c && z1 && z2)):=Lib.hid (by
      rw [HR.out,← hz1,← hz2];rfl)
     cases c<;>cases z1
     all_goals
      repeat' (first|go_skip|apply sK ()|apply sG ()|(apply O ();go_step)|(apply kc ();refine sc (cW _ V) ?_;clear V;rintro v w ⟨S1,hS1,rfl,V⟩)|apply sX ()|(apply sS ();clear V;intro w V)|(apply sA ();clear V;intro bk w V)|fail)
      go_ret;exact ⟨_,rfl,S1,hS1,by rw [HR.out];rfl,V.sub⟩
theorem V5 (p x r i):Jz p (x::r) i=if ((x.1 == 11) && HJ p x.2.2.1)=true then false else if ((x.1 == 2) && !(HJ p x.2.2.1) && (decide (B0 p x.2.2.1 < 0) || decide (B0 p x.2.2.1 > i)))=true then false else Jz p r (i+1):=by
 rw [Jz];simp only [Bool.and_eq_true,beq_iff_eq,Bool.not_eq_true',Bool.or_eq_true,decide_eq_true_eq,and_assoc]
theorem WI {xs:List Ip} {i} (h):Lm (xs.take i) (xs.drop i)=((xs.take i).any (fun j=>decide (j.1=xs[i].1)) || Lm (xs.take (i+1)) (xs.drop (i+1))):=by
 rw [List.drop_eq_getElem_cons h,Lm,List.take_succ_eq_append_getElem h]
theorem cQ {S M} (w) (V:St S M w) (si sn p) (L:Cm S si sn p):
  Ac prog 67 [Bo si sn p] w fun v w'=>v=.bool (FD p)∧St S M w':=by
 unfold Ac;have hn:=L.n;have hi:=L.i;have hln:=L.ln;have hli:=L.li;obtain ⟨R,hR⟩:∃ R,FD p=R:=⟨_,rfl⟩
 rw [hR];have HP:=Lib.hid L;clear L;unfold FD gC at hR;have cI:=fun {M} w (V:St S M w) s=>O7 w V si sn p HP.out s
 have cF:=fun {M} w (V:St S M w) s=>LL w V si sn p HP.out s
 have HN:=Lib.hid hR;clear hR;generalize hxs:p.1=xs at HN hi hli;generalize hns:p.2.1=ns at HN hn hln;clear hxs hns;obtain ⟨D,hD⟩:∃ D,Lm [] xs=D:=⟨_,rfl⟩
 rw [hD] at HN;have HD:=Lib.hid hD;clear hD;go_enter func67,ntmps67;repeat' (first|(apply O ();go_step)|(apply sB ();clear V;intro bx w V)|fail)
 go_loopw [3,4] (fun u3 _ wr=>∃ (i:Nat),i≤xs.length∧u3=.int .i64 (i:Int)∧Hid (Lm (xs.take i) (xs.drop i)=D)∧St S (.box bx [.slice si.1 si.2.1 si.2.2,.slice sn.1 sn.2.1 sn.2.2,.int .i64 p.2.2.1,.int .i64 p.2.2.2.1] 87::M) wr) (fun v _ _=>xs.length - (intOf v).toNat)
 case atStart=>exact ⟨0,Nat.zero_le _,rfl,HD,V⟩
 case round =>
  clear V HD;obtain ⟨i,hi2,rfl,HD,V⟩:=hrel;by_cases hlt:i < xs.length
  ·repeat' (first|(apply O ();go_step)|apply sX ()|fail)
   go_loopw [4] (fun u4 wr=>∃ (k:Nat),k≤i∧u4=.int .i64 (k:Int)∧Hid ((xs.take k).any (fun j=>decide (j.1=xs[i].1))=false)∧St S (.box bx [.slice si.1 si.2.1 si.2.2,.slice sn.1 sn.2.1 sn.2.2,.int .i64 p.2.2.1,.int .i64 p.2.2.2.1] 87::M) wr) (fun v _=>i - (intOf v).toNat)
   case atStart=>exact ⟨0,Nat.zero_le _,rfl,Lib.hid rfl,V⟩
   case round =>
    clear V;obtain ⟨k,hk2,rfl,HK,V⟩:=hrel;by_cases hlk:k < i
    ·have hkx:k < xs.length:=by omega
     obtain ⟨z,hz⟩:∃ z,decide (xs[i].1.b=xs[k].1.b)=z:=⟨_,rfl⟩
     have hnx:=MI (fun j:Ip=>decide (j.1=xs[i].1)) xs hkx;rw [HK.out,JG,show decide (xs[k].1.b=xs[i].1.b)=decide (xs[i].1.b=xs[k].1.b) by congr 1;exact propext eq_comm,hz] at hnx;replace hnx:=Lib.hid hnx
     cases z with
     | true =>
      have HE:Hid (R=false):=Lib.hid (by
       have h1:=hnx.out
       have h2:(xs.take i).any (fun j=>decide (j.1=xs[i].1))=true:=by
        have e:xs.take (k+1)=(xs.take i).take (k+1):=by rw [List.take_take];congr 1;omega
        rw [e] at h1;exact Hh h1
       have h3:=HD.out;rw [WI hlt,h2,Bool.true_or] at h3;rw [← HN.out,← h3];rfl)
      clear hnx HD HN HK;repeat' ((apply ZZ 7);first|(apply O ();go_step)|fail)
      refine AD V kr ?_;clear V;intro ops;apply nW ();refine td 0 rfl ?_;refine td 1 rfl ?_;refine td 2 rfl ?_;refine tx 3 rfl (Aq X Ak rfl Y Y Af Af) ?_;rintro v L;replace L:=iN L;refine tx 4 rfl (As X Ak Y Y rfl) ?_;rintro v L;replace L:=iN L;refine tx 5 rfl (AO X Ak Y) ?_;rintro v ⟨rfl,hs⟩;refine td 6 rfl ?_;refine td 7 rfl ?_;refine td 8 rfl ?_;refine tx 9 rfl (Aq X Ak rfl Y Y Af Af) ?_;rintro v L;replace L:=iN L;refine tx 10 rfl (As X Ak Y Y rfl) ?_;rintro v L;replace L:=iN L;refine tx 11 rfl (AO X Ak Y) ?_;rintro v ⟨rfl,hs⟩;refine tq 12 rfl (AA rfl rfl Y hz) ?_;refine AJ kr ?_;clear ops;intro w V;repeat' (first|(apply O ();go_step)|fail)
      go_ret;exact ⟨_,rfl,by rw [HE.out];rfl,V.sub⟩
     | false =>
      repeat' ((apply ZZ 7);first|(apply O ();go_step)|fail)
      refine AD V kr ?_;clear V;intro ops;apply nW ();refine td 0 rfl ?_;refine td 1 rfl ?_;refine td 2 rfl ?_;refine tx 3 rfl (Aq X Ak rfl Y Y Af Af) ?_;rintro v L;replace L:=iN L;refine tx 4 rfl (As X Ak Y Y rfl) ?_;rintro v L;replace L:=iN L;refine tx 5 rfl (AO X Ak Y) ?_;rintro v ⟨rfl,hs⟩;refine td 6 rfl ?_;refine td 7 rfl ?_;refine td 8 rfl ?_;refine tx 9 rfl (Aq X Ak rfl Y Y Af Af) ?_;rintro v L;replace L:=iN L;refine tx 10 rfl (As X Ak Y Y rfl) ?_;rintro v L;replace L:=iN L;refine tx 11 rfl (AO X Ak Y) ?_;rintro v ⟨rfl,hs⟩;refine tq 12 rfl (AA rfl rfl Y hz) ?_;refine AJ kr ?_;clear ops;intro w V;repeat' (first|(apply O ();go_step)|fail)
      go_roundw
      case rel=>exact ⟨k+1,by omega,by go_num,Lib.hid hnx.out,V⟩
      case measure=>simp [intOf];omega
    ·obtain rfl:k=i:=by omega
     have HE:=HD.out;rw [WI hlt,HK.out,Bool.false_or] at HE;replace HE:=Lib.hid HE;repeat' (first|(apply O ();go_step)|fail)
     go_roundw
     case rel=>exact ⟨k+1,by omega,by go_num,HE,V⟩
     case measure=>simp [intOf];omega
  ·have HE:=HD.out;rw [List.drop_of_length_le (by omega),Lm] at HE;have HR:Hid (Jz p ns 0=R):=Lib.hid (by rw [← HN.out,← HE];rfl);clear HE HD HN;repeat' (first|(apply O ();go_step)|apply sX ()|fail)
   go_loopw [5,6,7,8] (fun u5 _ _ _ wr=>∃ (i:Nat),i≤ns.length∧u5=.int .i64 (i:Int)∧Hid (Jz p (ns.drop i) (i:Int)=R)∧St S (.box bx [.slice si.1 si.2.1 si.2.2,.slice sn.1 sn.2.1 sn.2.2,.int .i64 p.2.2.1,.int .i64 p.2.2.2.1] 87::M) wr) (fun v _ _ _ _=>ns.length - (intOf v).toNat)
   case atStart=>exact ⟨0,Nat.zero_le _,rfl,HR,V⟩
   case round =>
    clear V HR;rename_i i0 hlt0;obtain ⟨i,hi3,rfl,HR,V⟩:=hrel;by_cases hlt:i < ns.length
    ·have HN:=HR.out;rw [List.drop_eq_getElem_cons hlt,V5] at HN;obtain ⟨Xqq,hX⟩:∃ Xqq,ns[i]=Xqq:=⟨_,rfl⟩
     rw [hX] at HN;repeat' ((apply ZZ 12);first|(apply O ();go_step)|apply sX ()|fail)
     refine wp_region_lit ?_;repeat' (first|(apply O ();go_step)|apply sX ()|(apply sD ();intro cl hcl)|(apply sI ();intro v L)|(apply sA ();clear V;intro bk w V)|fail)
     rw [hX] at hcl;clear hX;obtain ⟨so,rfl,ho,hI1,hI2,hI3⟩:=A5 hcl;clear hcl;rw [show Z.agg Nd=true from rfl];apply nW ();have cI2:=fun {M} w (V:St S M w)=>cI w V Xqq.2.2.1
     have cF2:=fun {M} w (V:St S M w)=>cF w V Xqq.2.2.1
     generalize HJ p Xqq.2.2.1=z0 at *;generalize B0 p Xqq.2.2.1=q at *;obtain ⟨z1,hz1⟩:∃ z,(Xqq.1 == 11)=z:=⟨_,rfl⟩
     obtain ⟨z2,hz2⟩:∃ z,(Xqq.1 == 2)=z:=⟨_,rfl⟩
     obtain ⟨z3,hz3⟩:∃ z,decide (q < 0)=z:=⟨_,rfl⟩
     obtain ⟨z4,hz4⟩:∃ z,decide (q > (i:Int))=z:=⟨_,rfl⟩
     rw [hz1,hz2,hz3,hz4] at HN;replace HN:=Lib.hid HN;clear HR;have kz:(z1=true∧z0=true)∨(z1=true∧z0=false∧z2=false)∨(z1=true∧z0=false∧z2=true∧z3=true)∨(z1=true∧z0=false∧z2=true∧z3=false∧z4=true)∨(z1=true∧z0=false∧z2=true∧z3=false∧z4=false)∨(z1=false∧z2=false)∨(z1=false∧z2=true∧z0=true)∨(z1=false∧z2=true∧z0=false∧z3=true)∨(z1=false∧z2=true∧z0=false∧z3=false∧z4=true)∨(z1=false∧z2=true∧z0=false∧z3=false∧z4=false):=by cases z0<;>cases z1<;>cases z2<;>cases z3<;>cases z4<;>simp
     rcases kz with ⟨rfl,rfl⟩|⟨rfl,rfl,rfl⟩|⟨rfl,rfl,rfl,rfl⟩|⟨rfl,rfl,rfl,rfl,rfl⟩|⟨rfl,rfl,rfl,rfl,rfl⟩|⟨rfl,rfl⟩|⟨rfl,rfl,rfl⟩|⟨rfl,rfl,rfl,rfl⟩|⟨rfl,rfl,rfl,rfl,rfl⟩|⟨rfl,rfl,rfl,rfl,rfl⟩
     all_goals
      repeat' (first|apply sK ()|apply sG ()|(apply O ();go_step)|(apply kc ();refine sc (cI2 _ V) ?_;clear V;rintro v w ⟨rfl,V⟩)|(apply kc ();refine sc (cF2 _ V) ?_;clear V;rintro v w ⟨rfl,V⟩)|apply sX ()|(apply sS ();clear V;intro w V)|fail)
      first
       | (
         go_roundw
         case rel=>exact ⟨i+1,by omega,by go_num,Lib.hid (by have h:=HN.out;simpa using h),V.sub⟩
         case measure=>simp [intOf];omega)
       | (go_ret;exact ⟨_,rfl,by have h:=HN.out;rw [← h];simp,V.sub⟩)
    ·have HN:=HR.out;rw [List.drop_of_length_le (by omega),Jz] at HN;replace HN:=Lib.hid HN;clear HR;apply jt ()
structure UF (ns:List Nd) (j:Int):Prop where
 cls:Ea (Az ns j).1≠0
 len:(EW (Az ns j).1 (Az ns j).2.2.2.1.length).length=(Az ns j).2.2.2.1.length
 ofs:∀ i,i < (Az ns j).2.2.2.1.length→0≤AU (Az ns j) i∧AU (Az ns j) i < j∧Ea (Az ns (AU (Az ns j) i)).1=(EW (Az ns j).1 (Az ns j).2.2.2.1.length).getD i 0
section
variable {ns:List Nd}
theorem UJ {rec:Int→Wk→Wk} {k:Int} (hb:∀ o w,0≤o→o < k→w.2.2=false→g8 o w (rec o w)) (h:∀ o w,0≤o→o < k→w.2.2=false→(rec o w).2.2=false→∀ j,w.1≤j→j≤o→UF ns j):∀ (os cs:List Int) (w:Wk),w.2.2=false→(Ca rec ns k os cs w).1.2.2=false→os.length=cs.length →
  (∀ i,i < os.length→0≤os.getD i 0∧os.getD i 0 < k∧Ea (Az ns (os.getD i 0)).1=cs.getD i 0)∧∀ j,w.1≤j→j < (Ca rec ns k os cs w).1.1→UF ns j
 | [],cs,w,hw,hr,hl=>by
  have e:Ca rec ns k [] cs w=(w,false):=by cases cs<;>rfl
  rw [e];exact ⟨fun i hi=>absurd hi (by simp),fun j h1 h2=>absurd h1 (by simp only at h2;omega)⟩
 | o::os,[],w,hw,hr,hl=>by simp at hl
 | o::os,c::cs,w,hw,hr,hl=>by
  rw [Ca,if_neg (by rw [hw];decide)] at hr ⊢;by_cases hc:o < 0∨k≤o∨Ea (Az ns o).1≠c
  ·rw [if_pos hc] at hr;cases hr
  ·rw [if_neg hc] at hr ⊢;have hcc:Ea (Az ns o).1=c:=Decidable.byContradiction fun e=>hc (.inr (.inr e))
   cases hbo:(rec o w).2.2 with
   | true =>
    have e:Ca rec ns k os cs (rec o w)=(rec o w,false):=by
     apply ju ()
    rw [e,hbo] at hr;cases hr
   | false =>
    obtain ⟨i1,i2⟩:=UJ hb h os cs (rec o w) hbo hr (by simpa using hl);have b:=(hb o w (by omega) (by omega) hw).ok hbo;refine ⟨fun i hi=>?_,fun j h1 h2=>?_⟩
    ·cases i with
     | zero=>exact ⟨by show 0≤o;omega,by show o < k;omega,hcc⟩
     | succ i=>exact i1 i (by simpa using hi)
    ·by_cases hj:j≤o
     ·exact h o w (by omega) (by omega) hw hbo j h1 hj
     ·exact i2 j (by omega) h2
theorem Z1:∀ (f:Nat) (k:Int) (w:Wk),0≤k→w.2.2=false→(El ns f k w).2.2=false→∀ j,w.1≤j→j≤k→UF ns j
 | 0,k,w,hk,hw,hr,j,h1,h2=>by cases hr
 | f+1,k,w,hk,hw,hr,j,h1,h2=>by
  rw [El] at hr;by_cases hc:Ea (Az ns k).1=0∨(EW (Az ns k).1 (Az ns k).2.2.2.1.length).length≠(Az ns k).2.2.2.1.length∨((Az ns k).1=12∧(Az ns k).2.1≠w.2.1)
  ·rw [if_pos hc] at hr;cases hr
  ·rw [if_neg hc] at hr;have hlen:(EW (Az ns k).1 (Az ns k).2.2.2.1.length).length=(Az ns k).2.2.2.1.length:=Decidable.byContradiction fun e=>hc (.inr (.inl e))
   have B:=NW (ns:=ns) (rec:=El ns f) hk (fun o w ho hok hw=>KG f o w ho hw) (Az ns k).2.2.2.1 (EW (Az ns k).1 (Az ns k).2.2.2.1.length) (w.1,if (Az ns k).1=12 then w.2.1+1 else w.2.1,w.2.2) hw;have Lqq:=UJ (ns:=ns) (rec:=El ns f) (k:=k) (fun o w ho hok hw=>KG f o w ho hw) (fun o w ho hok hw hr=>Z1 f o w ho hw hr) (Az ns k).2.2.2.1 (EW (Az ns k).1 (Az ns k).2.2.2.1.length) (w.1,if (Az ns k).1=12 then w.2.1+1 else w.2.1,w.2.2) hw;simp only at hr Lqq B;generalize hW:Ca (El ns f) ns k (Az ns k).2.2.2.1 (EW (Az ns k).1 (Az ns k).2.2.2.1.length) (w.1,if (Az ns k).1=12 then w.2.1+1 else w.2.1,w.2.2)=r at *
   have hg:r.2=false:=by
    cases hg:r.2 with
    | false=>rfl
    | true =>
     rw [if_pos hg,(B.gave hg).1] at hr;cases hr
   rw [if_neg (by rw [hg];decide)] at hr;simp only [Bool.or_eq_false_iff,bne_eq_false_iff_eq] at hr;obtain ⟨L1,L2⟩:=Lqq hr.1 hlen.symm;by_cases hj:j=k
   ·subst hj;exact ⟨fun e=>hc (.inl e),hlen,L1⟩
   ·exact L2 j h1 (by omega)
end
structure Cl (p:Pg):Prop where
 n0:0 < p.2.1.length
 n4:p.2.1.length≤400
 rt:p.2.2.1=(p.2.1.length:Int) - 1
 rk:(Az p.2.1 ((p.2.1.length:Int) - 1)).1=17
 ik:∀ i∈p.1,1≤i.2.1∧i.2.1≤4
 nd:∀ j:Int,0≤j→j < p.2.1.length→UF p.2.1 j
 wk:(El p.2.1 (p.2.1.length+1) ((p.2.1.length:Int) - 1) (0,0,false))=((p.2.1.length:Int),p.2.2.2.1,false)
theorem LK {p} (h:CV p=true):Cl p:=by
 unfold CV at h;simp only at h;by_cases h1:p.2.1.length=0∨p.2.1.length > 400∨p.2.2.1≠(p.2.1.length:Int) - 1
 ·rw [if_pos h1] at h;cases h
 ·rw [if_neg h1] at h;by_cases h2:(Az p.2.1 ((p.2.1.length:Int) - 1)).1≠17
  ·rw [if_pos h2] at h;cases h
  ·rw [if_neg h2] at h
   cases h3:p.1.any (fun i=>decide (i.2.1 < 1∨i.2.1 > 4)) with
   | true=>rw [if_pos h3] at h;cases h
   | false =>
    rw [if_neg (by rw [h3];decide)] at h;simp only [Bool.and_eq_true,Bool.not_eq_true',decide_eq_true_eq] at h;obtain ⟨⟨w1,w2⟩,w3⟩:=h;have hall:=Z1 (ns:=p.2.1) (p.2.1.length+1) ((p.2.1.length:Int) - 1) (0,0,false) (by omega) rfl w1;refine ⟨by omega,by omega,by omega,Decidable.of_not_not h2,fun i hi=>?_,fun j h1 h2=>hall j h1 (by omega),?_⟩
    ·rw [List.any_eq_false] at h3;have:=h3 i hi;simp only [decide_eq_true_eq] at this;omega
    ·generalize El p.2.1 (p.2.1.length+1) ((p.2.1.length:Int) - 1) (0,0,false)=r at *;obtain ⟨a,b,c⟩:=r;simp only at w1 w2 w3;rw [w1,w2,w3]
theorem Mg (s:Cv):∀ (l:List Nd) (i:Int),EL s l i = -1∨∃ j:Nat,j < l.length∧EL s l i=i+j∧(l.getD j K4).1=11∧(l.getD j K4).2.2.1=s
 | [],i=>.inl rfl
 | x::r,i=>by
  rw [EL];by_cases h:x.1=11∧x.2.2.1=s
  ·rw [if_pos h];exact .inr ⟨0,by simp,by simp,h.1,h.2⟩
  ·rw [if_neg h];rcases Mg s r (i+1) with e|⟨j,h1,h2,h3,h4⟩
   ·exact .inl e
   ·exact .inr ⟨j+1,by simpa using h1,by rw [h2];push_cast;omega,h3,h4⟩
theorem NC {p s} (h:0≤B0 p s):∃ j:Nat,j < p.2.1.length∧B0 p s=j∧(Az p.2.1 (j:Int)).1=11∧(Az p.2.1 (j:Int)).2.2.1=s:=by
 rcases Mg s p.2.1 0 with e|⟨j,h1,h2,h3,h4⟩
 ·unfold B0 at h;omega
 ·exact ⟨j,h1,by unfold B0;omega,h3,h4⟩
theorem Sf {p:Pg}:∀ (l:List Nd) (i:Int),Jz p l i=true→∀ j,j < l.length→((l.getD j K4).1=2→HJ p (l.getD j K4).2.2.1=false→0≤B0 p (l.getD j K4).2.2.1∧B0 p (l.getD j K4).2.2.1≤i+j)
 | [],i,h,j,hj=>absurd hj (by simp)
 | x::r,i,h,j,hj=>by
  rw [Jz] at h;split at h
  ·cases h
  ·split at h
   ·cases h
   ·rename_i h1 h2
    cases j with
    | zero =>
     intro e1 e2;have e1':x.1=2:=e1;have e2':HJ p x.2.2.1=false:=e2;show 0≤B0 p x.2.2.1∧B0 p x.2.2.1≤i+((0:Nat):Int);constructor
     ·exact Decidable.byContradiction fun n=>h2 ⟨e1',e2',.inl (by omega)⟩
     ·exact Decidable.byContradiction fun n=>h2 ⟨e1',e2',.inr (by omega)⟩
    | succ j =>
     have:=Sf r (i+1) h j (by simpa using hj);intro e1 e2;have t:=this e1 e2;refine ⟨t.1,?_⟩;have t2:=t.2;show B0 p (r.getD j K4).2.2.1≤_;omega
def H6 (p:Pg):Prop:=∀ j:Nat,j < p.2.1.length→(Az p.2.1 (j:Int)).1=2→HJ p (Az p.2.1 (j:Int)).2.2.1=false→0≤B0 p (Az p.2.1 (j:Int)).2.2.1∧B0 p (Az p.2.1 (j:Int)).2.2.1≤j
theorem Y0 {p} (h:FD p=true):H6 p:=by
 unfold FD at h;rw [Bool.and_eq_true] at h;intro j hj h1 h2;have:=Sf p.2.1 0 h.2 j hj h1 h2;exact ⟨this.1,by have h:=this.2;rw [Int.zero_add] at h;exact h⟩
theorem db {p} (hw:Cl p) (hn:H6 p) {k} (hk:k < p.2.1.length) (h2:(Az p.2.1 (k:Int)).1=2) (hi:HJ p (Az p.2.1 (k:Int)).2.2.1=false):
  ∃ q o:Nat,∃ hq:q < p.2.1.length,∃ h0:0 < (p.2.1[q]).2.2.2.1.length,B0 p (Az p.2.1 (k:Int)).2.2.1=q∧q < k∧o < q∧(p.2.1[q]).2.2.2.1[0]=(o:Int):=by
 obtain ⟨a1,a2⟩:=hn k hk h2 hi;obtain ⟨q,b1,b2,b3,b4⟩:=NC a1
 have hqk:q < k:=by
  rcases Nat.lt_or_ge q k with h|h
  ·exact h
  ·have e:q=k:=by omega
   rw [e,h2] at b3;cases b3
 have Nqq:=hw.nd (q:Int) (by omega) (by omega);have e:=Be b1;have hl:=Nqq.len;rw [b3] at hl
 have hl1:(Az p.2.1 (q:Int)).2.2.2.1.length=1:=by
  rw [← hl];rfl
 obtain ⟨c1,c2,_⟩:=Nqq.ofs 0 (by omega);have h0:0 < (p.2.1[q]).2.2.2.1.length:=by rw [← e];omega
 have e0:AU (Az p.2.1 (q:Int)) 0=(p.2.1[q]).2.2.2.1[0]:=by
  rw [e];unfold AU;rw [List.getD_eq_getElem?_getD,List.getElem?_eq_getElem h0];rfl
 rw [e0] at c1 c2;exact ⟨q,((p.2.1[q]).2.2.2.1[0]).toNat,b1,h0,b2,hqk,by omega,by omega⟩
abbrev ZY (p:Pg) (f:Nat):Prop:=∀ {S M} (w:World) (si sn:Sv) (k:Nat),St S M w→Cm S si sn p→Cl p→H6 p→k < p.2.1.length→k+1≤f →
  Ac prog 111 [Bo si sn p,.int .i64 (k:Int)] w fun v w'=>v=.int .i64 (A7 p f k)∧St S M w'
theorem UX (p f) (ih:ZY p f):ZY p (f+1):=fun {S M} w si sn k V L hw hnm hk hf=>by
 unfold Ac;obtain ⟨R,hR⟩:∃ R,A7 p (f+1) k=R:=⟨_,rfl⟩
 rw [hR];rw [A7] at hR;have hn:=L.n;have hi:=L.i;have hln:=L.ln;have hx:=Be hk;have cI:=fun {M} w (V:St S M w) s=>O7 w V si sn p L s
 have cF:=fun {M} w (V:St S M w) s=>LL w V si sn p L s
 have HP:=Lib.hid L;by_cases h6:(Az p.2.1 (k:Int)).1≥6
 ·rw [if_pos h6] at hR;subst hR;rw [hx] at h6;apply j5 ()
 ·rw [if_neg h6] at hR;by_cases h2:(Az p.2.1 (k:Int)).1≠2
  ·rw [if_pos h2] at hR;subst hR;rw [hx] at h6 h2;apply j5 ()
  ·rw [if_neg h2] at hR;have h2:=Decidable.of_not_not h2
   cases hin:HJ p (Az p.2.1 (k:Int)).2.2.1 with
   | true =>
    rw [if_pos hin] at hR;subst hR;rw [hx] at h2 hin;have cI2:=fun {M} w (V:St S M w)=>cI w V (p.2.1[k]).2.2.1
    rw [hin] at cI2;have h2':Hid (p.2.1[k].1=2):=Lib.hid h2;have h7:2≤p.2.1[k].1∧p.2.1[k].1≤2:=by omega
    clear hx L hw hnm h2 h6 hin cI;go_enter func111,ntmps111;repeat' ((apply ZZ 1);first|(apply O ();go_step)|(apply sB ();clear V;intro bx w V)|fail)
    refine wp_region_lit ?_;repeat' (first|(apply O ();go_step)|apply sX ()|(apply sD ();intro cl hcl)|(apply sI ();intro v L)|(apply sA ();clear V;intro bk w V)|fail)
    obtain ⟨so,rfl,ho,hI1,hI2,hI3⟩:=A5 hcl;clear hcl;rw [show Z.agg Nd=true from rfl];apply nW ();repeat' (first|(apply O ();go_step)|(apply kc ();refine sc (cI2 _ V) ?_;clear V;rintro v w ⟨rfl,V⟩)|apply sX ()|(apply sS ();clear V;intro w V)|fail)
    all_goals first
     | (exfalso;omega)
     | (go_ret;exact ⟨_,rfl,rfl,V.sub⟩)
   | false =>
    rw [if_neg (by rw [hin];decide)] at hR;obtain ⟨q,o,hq,h0,e1,hqk,hoq,e2⟩:=db hw hnm hk h2 hin
    have e3:(Az p.2.1 (B0 p (Az p.2.1 (k:Int)).2.2.1)).2.2.2.1.getD 0 0=(o:Int):=by
     rw [e1,Be hq,List.getD_eq_getElem?_getD,List.getElem?_eq_getElem h0,← e2];rfl
    rw [e3] at hR;have cT:=fun {S':Ad} {M:List J} (w:World) (hS:S.Le S') (V:St S' M w)=>ih w si sn o V (L.mono hS) hw hnm (by omega) (by omega)
    rw [← e2] at cT hR;rw [hR] at cT;rw [hx] at h2 hin e1;have cI2:=fun {M} w (V:St S M w)=>cI w V (p.2.1[k]).2.2.1
    have cF2:=fun {S':Ad} {M:List J} (w:World) (hS:S.Le S') (V:St S' M w)=>LL w V si sn p (L.mono hS) (p.2.1[k]).2.2.1
    rw [hin] at cI2;rw [e1] at cF2;have h7:2≤p.2.1[k].1∧p.2.1[k].1≤2:=by omega
    clear hx L hw hnm h2 h6 hin cI cF e1 e2 e3 hR;go_enter func111,ntmps111;repeat' ((apply ZZ 1);first|(apply O ();go_step)|(apply sB ();clear V;intro bx w V)|fail)
    refine wp_region_lit ?_;repeat' (first|(apply O ();go_step)|apply sX ()|(apply sD ();intro cl hcl)|(apply sI ();intro v L)|(apply sA ();clear V;intro bk w V)|fail)
    obtain ⟨so,rfl,ho,hI1,hI2,hI3⟩:=A5 hcl;clear hcl;rw [show Z.agg Nd=true from rfl];apply nW ();repeat' ((apply ZZ 9);first|(apply O ();go_step)|(apply kc ();refine sc (cI2 _ V) ?_;clear V;rintro v w ⟨rfl,V⟩)|apply sX ()|(apply sS ();clear V;intro w V)|fail)
    refine AD V kr ?_;clear V;intro ops;apply nW ();refine td 0 rfl ?_;refine td 1 rfl ?_;refine td 2 rfl ?_;refine td 3 rfl ?_;refine td 4 rfl ?_;refine td 5 rfl ?_;(refine AQ 6 rfl kr rfl (fun S' M' w hS hM V=>cF2 w hS V) Y rfl ?_)<;>apply nW ()
    refine tx 7 rfl (Aq X Ak rfl Y Y Af Af) ?_;rintro v L;replace L:=iN L;refine tx 8 rfl (As X Ak Y Y rfl) ?_;rintro v L;replace L:=iN L;refine tx 9 rfl (Aj X Ak Y) ?_;rintro v ⟨hvl,hv1⟩;refine tx 10 rfl (Aq X Ak rfl Y Y Af Af) ?_;rintro v L;replace L:=iN L;refine tx 11 rfl (Am X Ak Y) ?_;rintro v ⟨rfl,hI⟩;(refine AQ 12 rfl kr rfl (fun S' M' w hS hM V=>cT w hS V) Y rfl ?_)<;>apply nW ()
    refine td 13 rfl ?_;apply jZ ()
theorem CN (p:Pg):∀ f,ZY p f
 | 0=>fun w si sn k _ _ _ _ _ hf=>absurd hf (by omega)
 | f+1=>UX p f (CN p f)
end Go.Proofs.YtmmbidoldegemaaGreatDoor
