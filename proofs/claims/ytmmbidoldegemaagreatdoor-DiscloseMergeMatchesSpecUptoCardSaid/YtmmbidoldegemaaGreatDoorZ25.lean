/- Part 26 of the proof that the law of the last part holds; no conditions. -/
import Derived.Test.YtmmbidoldegemaaGreatDoorZ24
set_option linter.unusedSimpArgs false
set_option linter.unusedVariables false
set_option maxRecDepth 8000
set_option maxHeartbeats 8000000
namespace Go.Proofs.YtmmbidoldegemaaGreatDoor
open Go.RowKit Go.Sl
abbrev f0 (S:Ac) (M:List Chunk) (r:Bool) (v:Value) (w:World):Prop:=∃ S',S.Le S'∧v=.bool r∧St S' M w
theorem ez {p:Pg} (h:p.2.1.length=0∨p.2.1.length > 400∨p.2.2.1≠(p.2.1.length:Int) - 1):CH p=false:=by
 unfold CH;simp only;rw [if_pos h]
theorem ey {p:Pg} (h:¬ (p.2.1.length=0∨p.2.1.length > 400∨p.2.2.1≠(p.2.1.length:Int) - 1)) (h2:(Ax p.2.1 ((p.2.1.length:Int) - 1)).1≠17):CH p=false:=by
 unfold CH;simp only;rw [if_neg h,if_pos h2]
theorem ew {p:Pg} (h:¬ (p.2.1.length=0∨p.2.1.length > 400∨p.2.2.1≠(p.2.1.length:Int) - 1)) (h2:¬ (Ax p.2.1 ((p.2.1.length:Int) - 1)).1≠17) (h3:p.1.any (fun i=>decide (i.2.1 < 1∨i.2.1 > 4))=true):CH p=false:=by
 unfold CH;simp only;rw [if_neg h,if_neg h2,if_pos h3]
theorem et {p:Pg} (h:¬ (p.2.1.length=0∨p.2.1.length > 400∨p.2.2.1≠(p.2.1.length:Int) - 1)) (h2:¬ (Ax p.2.1 ((p.2.1.length:Int) - 1)).1≠17) (h3:p.1.any (fun i=>decide (i.2.1 < 1∨i.2.1 > 4))=false):CH p=(!(DY p.2.1 (p.2.1.length+1) ((p.2.1.length:Int) - 1) (0,0,false)).2.2 && decide ((DY p.2.1 (p.2.1.length+1) ((p.2.1.length:Int) - 1) (0,0,false)).1=(p.2.1.length:Int)) && decide ((DY p.2.1 (p.2.1.length+1) ((p.2.1.length:Int) - 1) (0,0,false)).2.1=p.2.2.2.1)):=by
 unfold CH;simp only;rw [if_neg h,if_neg h2,if_neg (by rw [h3];decide)]
theorem Pz {S M} (w:World) (hst:St S M w) (si sn:Sv) (p:Pg) (hp:Du S si sn p) :
  Ad Tryz.prog 66 [CR si sn p] w (f0 S M (CH p)):=by
 unfold Ad;have hn:=hp.n;have hi:=hp.i;have hln:=hp.ln;have hli:=hp.li;have hroot:p.2.2.1=p.2.2.1:=rfl;by_cases h1:p.2.1.length=0∨p.2.1.length > 400∨p.2.2.1≠(p.2.1.length:Int) - 1
 ·have HR:=Lib.hid (ez h1);obtain ⟨z1,hz1⟩:∃ z,((p.2.1.length:Int) == 0)=z:=⟨_,rfl⟩
  obtain ⟨z2,hz2⟩:∃ z,decide ((p.2.1.length:Int) > 400)=z:=⟨_,rfl⟩
  obtain ⟨z3,hz3⟩:∃ z,(p.2.2.1 != (p.2.1.length:Int) - 1)=z:=⟨_,rfl⟩
  have hc:z1=true∨(z1=false∧z2=true)∨(z1=false∧z2=false∧z3=true):=by
   rcases h1 with h|h|h
   ·left;rw [← hz1,h];rfl
   ·cases z1
    ·right;left;exact ⟨rfl,by rw [← hz2];exact decide_eq_true (by omega)⟩
    ·exact .inl rfl
   ·cases z1
    ·cases z2
     ·right;right;exact ⟨rfl,rfl,by rw [← hz3];simpa using h⟩
     ·exact .inr (.inl ⟨rfl,rfl⟩)
    ·exact .inl rfl
  clear h1 hroot;rcases hc with rfl|⟨rfl,rfl⟩|⟨rfl,rfl,rfl⟩
  all_goals
   go_enter Tryz.func66,Tryz.ntmps66;repeat' (first|go_skip|apply sK ()|apply sG ()|(apply gK ();go_step)|apply sX ()|(apply sB ();clear hst;intro bx w hst)|fail)
   go_ret;exact ⟨_,rfl,S,.refl _,by rw [HR.out];rfl,hst.sub⟩
 ·have hn0:0 < p.2.1.length:=by omega
  have hn4:p.2.1.length≤400:=by omega
  have hrt:p.2.2.1=(p.2.1.length:Int) - 1:=by omega
  obtain ⟨k,hk⟩:∃ k,k+1≤p.2.1.length∧p.2.1.length≤k+1:=⟨p.2.1.length - 1,by omega,by omega⟩
  have hkl:k < p.2.1.length:=by omega
  have hkk:(p.2.1.length:Int) - 1=(k:Int):=by omega
  have hx:=BG hkl;by_cases h2:(Ax p.2.1 ((p.2.1.length:Int) - 1)).1≠17
  ·have HR:=Lib.hid (ey h1 h2);rw [hkk,hx] at h2;have hz1:((p.2.1.length:Int) == 0)=false:=beq_eq_false_iff_ne.2 (by omega);have hz3:(p.2.2.1 != (p.2.1.length:Int) - 1)=false:=by rw [hrt];simp
   have hz4:∀ j (hj:j < p.2.1.length),j=k→((p.2.1[j]).1 != 17)=true:=fun j hj e=>by subst e;simpa using h2
   have hj:((p.2.1.length:Int) - 1).toNat < p.2.1.length:=by omega
   have hz5:=hz4 ((p.2.1.length:Int) - 1).toNat hj (by omega);clear h1 hroot h2 hx hkk hrt hz4;go_enter Tryz.func66,Tryz.ntmps66;repeat' (first|apply sG ()|(with_reducible refine Sl.k_guard ?_;refine Sl.guard_cases rfl ?_ ?_<;>intro hg<;>first|exact gX|(simp only [hg,Bool.not_true,Bool.not_false])<;>(try replace hg:=gN hg)<;>(try refine nX ?_))|apply sK ()|(apply gK ();go_step)|apply sX ()|(apply sN ();intro hI)|(apply sI ();intro v hp)|(apply sB ();clear hst;intro bx w hst)|fail)
   go_ret;exact ⟨_,rfl,S,.refl _,by rw [HR.out];rfl,hst.sub⟩
  ·have hz1:((p.2.1.length:Int) == 0)=false:=beq_eq_false_iff_ne.2 (by omega);have hz3:(p.2.2.1 != (p.2.1.length:Int) - 1)=false:=by rw [hrt];simp
   have hz4:∀ j (hj:j < p.2.1.length),j=k→((p.2.1[j]).1 != 17)=false:=fun j hj e=>by
    subst e;rw [hkk,hx] at h2
    simpa using h2
   have hj:((p.2.1.length:Int) - 1).toNat < p.2.1.length:=by omega
   have hz5:=hz4 ((p.2.1.length:Int) - 1).toNat hj (by omega);have F3:=fun h=>Lib.hid (ew h1 h2 h)
   have F4:=fun h=>Lib.hid (et h1 h2 h)
   rw [hkk] at F4;have HK:=Lib.hid hkk;clear h1 hroot h2 hx hkk hrt hz4;obtain ⟨R,hR⟩:∃ R,CH p=R:=⟨_,rfl⟩
   rw [hR] at F3 F4;rw [hR];clear hR;have HP:=Lib.hid hp;clear hp;generalize hxs:p.1=xs at *;go_enter Tryz.func66,Tryz.ntmps66;repeat' ((apply Z6 ());first|apply sG ()|(with_reducible refine Sl.k_guard ?_;refine Sl.guard_cases rfl ?_ ?_<;>intro hg<;>first|exact gX|(simp only [hg,Bool.not_true,Bool.not_false])<;>(try replace hg:=gN hg)<;>(try refine nX ?_))|apply sK ()|(apply gK ();go_step)|apply sX ()|(apply sN ();intro hI)|(apply sI ();intro v hp)|(apply sB ();clear hst;intro bx w hst)|fail)
   clear hz1 hz3 hz5;repeat' (first|(apply gK ();go_step)|fail)
   go_loopw [4] (fun u4 wr=>∃ (i:Nat),i≤xs.length∧u4=.int .i64 (i:Int)∧Hid ((xs.take i).any (fun i=>decide (i.2.1 < 1∨i.2.1 > 4))=false)∧St S (.box bx [.slice si.1 si.2.1 si.2.2,.slice sn.1 sn.2.1 sn.2.2,.int .i64 p.2.2.1,.int .i64 p.2.2.2.1] 87::M) wr) (fun v _=>xs.length - (intOf v).toNat)
   case atStart=>exact ⟨0,Nat.zero_le _,rfl,Lib.hid rfl,hst⟩
   case round =>
    clear hst;obtain ⟨i,hi2,rfl,hno,hst⟩:=hrel;by_cases hlt:i < xs.length
    ·obtain ⟨z1,hz1⟩:∃ z,decide (xs[i].2.1 < 1)=z:=⟨_,rfl⟩
     obtain ⟨z2,hz2⟩:∃ z,decide (xs[i].2.1 > 4)=z:=⟨_,rfl⟩
     have hnx:=Lib.hid (LR (fun i:Ip=>decide (i.2.1 < 1∨i.2.1 > 4)) xs hlt);have hq:Hid (decide (xs[i].2.1 < 1∨xs[i].2.1 > 4)=(z1 || z2)):=Lib.hid (by rw [← hz1,← hz2];simp);have kz:z1=true∨(z1=false∧z2=true)∨(z1=false∧z2=false):=by cases z1<;>cases z2<;>simp
     rcases kz with rfl|⟨rfl,rfl⟩|⟨rfl,rfl⟩
     ·have HR:=F3 (by
       have h:=hnx.out;rw [hq.out,Bool.true_or,Bool.or_true] at h;exact GE h)
      clear F3 F4;apply eQ ()
     ·have HR:=F3 (by
       have h:=hnx.out;rw [hq.out,Bool.or_true,Bool.or_true] at h;exact GE h)
      clear F3 F4;apply eQ ()
     ·repeat' (first|apply sK ()|apply sG ()|(apply gK ();go_step)|apply sX ()|(apply sN ();intro hI)|(apply sI ();intro v hp)|fail)
      go_roundw
      case rel=>exact ⟨i+1,by omega,by go_num,Lib.hid (by rw [hnx.out,hno.out,hq.out];rfl),hst⟩
      case measure=>simp [intOf];omega
    ·have HR:=F4 (by
      have h:=hno.out;rwa [List.take_of_length_le (by omega)] at h)
     clear F3 F4 hno;have bB:=JV (ns:=p.2.1) (p.2.1.length+1) (k:Int) (0,0,false) (by omega) rfl;have cW:=fun {M:List Chunk} (w:World) (hst:St S M w)=>OC p (p.2.1.length+1) w si sn k (0,0,false) hst HP.out (by omega) (by omega) rfl ⟨Int.le_refl _,by show (0:Int)≤1000000;omega⟩ ⟨Int.le_refl _,by show (0:Int)≤0+(1000000 - (k:Int));omega⟩
     generalize DY p.2.1 (p.2.1.length+1) (k:Int) (0,0,false)=r at *;rw [← HK.out] at cW;clear bB;obtain ⟨a,b,c⟩:=r;obtain ⟨z1,hz1⟩:∃ z,(a == (p.2.1.length:Int))=z:=⟨_,rfl⟩
     obtain ⟨z2,hz2⟩:∃ z,(b == p.2.2.2.1)=z:=⟨_,rfl⟩
     have HR:Hid (R=(!c && z1 && z2)):=Lib.hid (by
      rw [HR.out,← hz1,← hz2];rfl)
     cases c<;>cases z1
     all_goals
      repeat' (first|go_skip|apply sK ()|apply sG ()|(apply gK ();go_step)|(apply kc ();refine sc (cW _ hst) ?_;clear hst;rintro v w ⟨S1,hS1,rfl,hst⟩)|apply sX ()|(apply sS ();clear hst;intro w hst)|(apply sA ();clear hst;intro bk w hst)|fail)
      go_ret;exact ⟨_,rfl,S1,hS1,by rw [HR.out];rfl,hst.sub⟩
theorem UW (p:Pg) (x:Nd) (r:List Nd) (i:Int):IP p (x::r) i=if ((x.1 == 11) && GX p x.2.2.1)=true then false else if ((x.1 == 2) && !(GX p x.2.2.1) && (decide (Cl p x.2.2.1 < 0) || decide (Cl p x.2.2.1 > i)))=true then false else IP p r (i+1):=by
 rw [IP];simp only [Bool.and_eq_true,beq_iff_eq,Bool.not_eq_true',Bool.or_eq_true,decide_eq_true_eq,and_assoc]
theorem Vy {xs:List Ip} {i:Nat} (h:i < xs.length):Kx (xs.take i) (xs.drop i)=((xs.take i).any (fun j=>decide (j.1=xs[i].1)) || Kx (xs.take (i+1)) (xs.drop (i+1))):=by
 rw [List.drop_eq_getElem_cons h,Kx,List.take_succ_eq_append_getElem h]
theorem ZO {S M} (w:World) (hst:St S M w) (si sn:Sv) (p:Pg) (hp:Du S si sn p) :
  Ad Tryz.prog 67 [CR si sn p] w fun v w'=>v=.bool (Fd p)∧St S M w':=by
 unfold Ad;have hn:=hp.n;have hi:=hp.i;have hln:=hp.ln;have hli:=hp.li;obtain ⟨R,hR⟩:∃ R,Fd p=R:=⟨_,rfl⟩
 rw [hR];have HP:=Lib.hid hp;clear hp;unfold Fd eF at hR;have cI:=fun {M:List Chunk} (w:World) (hst:St S M w) s=>N9 w hst si sn p HP.out s
 have cF:=fun {M:List Chunk} (w:World) (hst:St S M w) s=>Ns w hst si sn p HP.out s
 have HN:=Lib.hid hR;clear hR;generalize hxs:p.1=xs at HN hi hli;generalize hns:p.2.1=ns at HN hn hln;clear hxs hns;obtain ⟨D,hD⟩:∃ D,Kx [] xs=D:=⟨_,rfl⟩
 rw [hD] at HN;have HD:=Lib.hid hD;clear hD;go_enter Tryz.func67,Tryz.ntmps67;repeat' (first|(apply gK ();go_step)|(apply sB ();clear hst;intro bx w hst)|fail)
 go_loopw [3,4] (fun u3 _ wr=>∃ (i:Nat),i≤xs.length∧u3=.int .i64 (i:Int)∧Hid (Kx (xs.take i) (xs.drop i)=D)∧St S (.box bx [.slice si.1 si.2.1 si.2.2,.slice sn.1 sn.2.1 sn.2.2,.int .i64 p.2.2.1,.int .i64 p.2.2.2.1] 87::M) wr) (fun v _ _=>xs.length - (intOf v).toNat)
 case atStart=>exact ⟨0,Nat.zero_le _,rfl,HD,hst⟩
 case round =>
  clear hst HD;obtain ⟨i,hi2,rfl,HD,hst⟩:=hrel;by_cases hlt:i < xs.length
  ·repeat' (first|(apply gK ();go_step)|apply sX ()|fail)
   go_loopw [4] (fun u4 wr=>∃ (k:Nat),k≤i∧u4=.int .i64 (k:Int)∧Hid ((xs.take k).any (fun j=>decide (j.1=xs[i].1))=false)∧St S (.box bx [.slice si.1 si.2.1 si.2.2,.slice sn.1 sn.2.1 sn.2.2,.int .i64 p.2.2.1,.int .i64 p.2.2.2.1] 87::M) wr) (fun v _=>i - (intOf v).toNat)
   case atStart=>exact ⟨0,Nat.zero_le _,rfl,Lib.hid rfl,hst⟩
   case round =>
    clear hst;obtain ⟨k,hk2,rfl,HK,hst⟩:=hrel;by_cases hlk:k < i
    ·have hkx:k < xs.length:=by omega
     obtain ⟨z,hz⟩:∃ z,decide (xs[i].1.b=xs[k].1.b)=z:=⟨_,rfl⟩
     have hnx:=LR (fun j:Ip=>decide (j.1=xs[i].1)) xs hkx;rw [HK.out,IU,show decide (xs[k].1.b=xs[i].1.b)=decide (xs[i].1.b=xs[k].1.b) by congr 1;exact propext eq_comm,hz] at hnx;replace hnx:=Lib.hid hnx
     cases z with
     | true =>
      have HE:Hid (R=false):=Lib.hid (by
       have h1:=hnx.out
       have h2:(xs.take i).any (fun j=>decide (j.1=xs[i].1))=true:=by
        have e:xs.take (k+1)=(xs.take i).take (k+1):=by rw [List.take_take];congr 1;omega
        rw [e] at h1;exact GE h1
       have h3:=HD.out;rw [Vy hlt,h2,Bool.true_or] at h3;rw [← HN.out,← h3];rfl)
      clear hnx HD HN HK;repeat' ((apply Z7 ());first|(apply gK ();go_step)|fail)
      refine AF hst kr ?_;clear hst;intro ops;(try refine nX ?_);refine td 0 rfl ?_;refine td 1 rfl ?_;refine td 2 rfl ?_;refine tx 3 rfl (Ao Ab Ak rfl Aa Aa Af Af) ?_;rintro v hp;replace hp:=iN hp;refine tx 4 rfl (Ah Ab Ak Aa Aa rfl) ?_;rintro v hp;replace hp:=iN hp;refine tx 5 rfl (AL Ab Ak Aa) ?_;rintro v ⟨rfl,hs⟩;refine td 6 rfl ?_;refine td 7 rfl ?_;refine td 8 rfl ?_;refine tx 9 rfl (Ao Ab Ak rfl Aa Aa Af Af) ?_;rintro v hp;replace hp:=iN hp;refine tx 10 rfl (Ah Ab Ak Aa Aa rfl) ?_;rintro v hp;replace hp:=iN hp;refine tx 11 rfl (AL Ab Ak Aa) ?_;rintro v ⟨rfl,hs⟩;refine tq 12 rfl (Aw rfl rfl Aa hz) ?_;refine AK kr ?_;clear ops;intro w hst;repeat' (first|(apply gK ();go_step)|fail)
      go_ret;exact ⟨_,rfl,by rw [HE.out];rfl,hst.sub⟩
     | false =>
      repeat' ((apply Z7 ());first|(apply gK ();go_step)|fail)
      refine AF hst kr ?_;clear hst;intro ops;(try refine nX ?_);refine td 0 rfl ?_;refine td 1 rfl ?_;refine td 2 rfl ?_;refine tx 3 rfl (Ao Ab Ak rfl Aa Aa Af Af) ?_;rintro v hp;replace hp:=iN hp;refine tx 4 rfl (Ah Ab Ak Aa Aa rfl) ?_;rintro v hp;replace hp:=iN hp;refine tx 5 rfl (AL Ab Ak Aa) ?_;rintro v ⟨rfl,hs⟩;refine td 6 rfl ?_;refine td 7 rfl ?_;refine td 8 rfl ?_;refine tx 9 rfl (Ao Ab Ak rfl Aa Aa Af Af) ?_;rintro v hp;replace hp:=iN hp;refine tx 10 rfl (Ah Ab Ak Aa Aa rfl) ?_;rintro v hp;replace hp:=iN hp;refine tx 11 rfl (AL Ab Ak Aa) ?_;rintro v ⟨rfl,hs⟩;refine tq 12 rfl (Aw rfl rfl Aa hz) ?_;refine AK kr ?_;clear ops;intro w hst;repeat' (first|(apply gK ();go_step)|fail)
      go_roundw
      case rel=>exact ⟨k+1,by omega,by go_num,Lib.hid hnx.out,hst⟩
      case measure=>simp [intOf];omega
    ·obtain rfl:k=i:=by omega
     have HE:=HD.out;rw [Vy hlt,HK.out,Bool.false_or] at HE;replace HE:=Lib.hid HE;repeat' (first|(apply gK ();go_step)|fail)
     go_roundw
     case rel=>exact ⟨k+1,by omega,by go_num,HE,hst⟩
     case measure=>simp [intOf];omega
  ·have HE:=HD.out;rw [List.drop_of_length_le (by omega),Kx] at HE;have HR:Hid (IP p ns 0=R):=Lib.hid (by rw [← HN.out,← HE];rfl);clear HE HD HN;repeat' (first|(apply gK ();go_step)|apply sX ()|fail)
   go_loopw [5,6,7,8] (fun u5 _ _ _ wr=>∃ (i:Nat),i≤ns.length∧u5=.int .i64 (i:Int)∧Hid (IP p (ns.drop i) (i:Int)=R)∧St S (.box bx [.slice si.1 si.2.1 si.2.2,.slice sn.1 sn.2.1 sn.2.2,.int .i64 p.2.2.1,.int .i64 p.2.2.2.1] 87::M) wr) (fun v _ _ _ _=>ns.length - (intOf v).toNat)
   case atStart=>exact ⟨0,Nat.zero_le _,rfl,HR,hst⟩
   case round =>
    clear hst HR;rename_i i0 hlt0;obtain ⟨i,hi3,rfl,HR,hst⟩:=hrel;by_cases hlt:i < ns.length
    ·have HN:=HR.out;rw [List.drop_eq_getElem_cons hlt,UW] at HN;obtain ⟨X,hX⟩:∃ X,ns[i]=X:=⟨_,rfl⟩
     rw [hX] at HN;repeat' ((apply V7 ());first|(apply gK ();go_step)|apply sX ()|fail)
     refine wp_region_lit ?_;repeat' (first|(apply gK ();go_step)|apply sX ()|(apply sD ();intro cl hcl)|(apply sI ();intro v hp)|(apply sA ();clear hst;intro bk w hst)|fail)
     rw [hX] at hcl;clear hX;obtain ⟨so,rfl,ho,hI1,hI2,hI3⟩:=BT hcl;clear hcl;rw [show Rep.agg Nd=true from rfl];(try refine nX ?_);have cI2:=fun {M:List Chunk} (w:World) (hst:St S M w)=>cI w hst X.2.2.1
     have cF2:=fun {M:List Chunk} (w:World) (hst:St S M w)=>cF w hst X.2.2.1
     generalize GX p X.2.2.1=z0 at *;generalize Cl p X.2.2.1=q at *;obtain ⟨z1,hz1⟩:∃ z,(X.1 == 11)=z:=⟨_,rfl⟩
     obtain ⟨z2,hz2⟩:∃ z,(X.1 == 2)=z:=⟨_,rfl⟩
     obtain ⟨z3,hz3⟩:∃ z,decide (q < 0)=z:=⟨_,rfl⟩
     obtain ⟨z4,hz4⟩:∃ z,decide (q > (i:Int))=z:=⟨_,rfl⟩
     rw [hz1,hz2,hz3,hz4] at HN;replace HN:=Lib.hid HN;clear HR;have kz:(z1=true∧z0=true)∨(z1=true∧z0=false∧z2=false)∨(z1=true∧z0=false∧z2=true∧z3=true)∨(z1=true∧z0=false∧z2=true∧z3=false∧z4=true)∨(z1=true∧z0=false∧z2=true∧z3=false∧z4=false)∨(z1=false∧z2=false)∨(z1=false∧z2=true∧z0=true)∨(z1=false∧z2=true∧z0=false∧z3=true)∨(z1=false∧z2=true∧z0=false∧z3=false∧z4=true)∨(z1=false∧z2=true∧z0=false∧z3=false∧z4=false):=by cases z0<;>cases z1<;>cases z2<;>cases z3<;>cases z4<;>simp
     rcases kz with ⟨rfl,rfl⟩|⟨rfl,rfl,rfl⟩|⟨rfl,rfl,rfl,rfl⟩|⟨rfl,rfl,rfl,rfl,rfl⟩|⟨rfl,rfl,rfl,rfl,rfl⟩|⟨rfl,rfl⟩|⟨rfl,rfl,rfl⟩|⟨rfl,rfl,rfl,rfl⟩|⟨rfl,rfl,rfl,rfl,rfl⟩|⟨rfl,rfl,rfl,rfl,rfl⟩
     all_goals
      repeat' (first|apply sK ()|apply sG ()|(apply gK ();go_step)|(apply kc ();refine sc (cI2 _ hst) ?_;clear hst;rintro v w ⟨rfl,hst⟩)|(apply kc ();refine sc (cF2 _ hst) ?_;clear hst;rintro v w ⟨rfl,hst⟩)|apply sX ()|(apply sS ();clear hst;intro w hst)|fail)
      first
       | (
         go_roundw
         case rel=>exact ⟨i+1,by omega,by go_num,Lib.hid (by have h:=HN.out;simpa using h),hst.sub⟩
         case measure=>simp [intOf];omega)
       | (go_ret;exact ⟨_,rfl,by have h:=HN.out;rw [← h];simp,hst.sub⟩)
    ·have HN:=HR.out;rw [List.drop_of_length_le (by omega),IP] at HN;replace HN:=Lib.hid HN;clear HR;apply gw ()
structure Tr (ns:List Nd) (j:Int):Prop where
 cls:DQ (Ax ns j).1≠0
 len:(Fh (Ax ns j).1 (Ax ns j).2.2.2.1.length).length=(Ax ns j).2.2.2.1.length
 ofs:∀ i,i < (Ax ns j).2.2.2.1.length→0≤BB (Ax ns j) i∧BB (Ax ns j) i < j∧DQ (Ax ns (BB (Ax ns j) i)).1=(Fh (Ax ns j).1 (Ax ns j).2.2.2.1.length).getD i 0
section
variable {ns:List Nd}
theorem Tu {rec:Int→Wk→Wk} {k:Int} (hb:∀ o w,0≤o→o < k→w.2.2=false→fe o w (rec o w)) (h:∀ o w,0≤o→o < k→w.2.2=false→(rec o w).2.2=false→∀ j,w.1≤j→j≤o→Tr ns j):∀ (os cs:List Int) (w:Wk),w.2.2=false→(BV rec ns k os cs w).1.2.2=false→os.length=cs.length →
  (∀ i,i < os.length→0≤os.getD i 0∧os.getD i 0 < k∧DQ (Ax ns (os.getD i 0)).1=cs.getD i 0)∧∀ j,w.1≤j→j < (BV rec ns k os cs w).1.1→Tr ns j
 | [],cs,w,hw,hr,hl=>by
  have e:BV rec ns k [] cs w=(w,false):=by cases cs<;>rfl
  rw [e];exact ⟨fun i hi=>absurd hi (by simp),fun j h1 h2=>absurd h1 (by simp only at h2;omega)⟩
 | o::os,[],w,hw,hr,hl=>by simp at hl
 | o::os,c::cs,w,hw,hr,hl=>by
  rw [BV,if_neg (by rw [hw];decide)] at hr ⊢;by_cases hc:o < 0∨k≤o∨DQ (Ax ns o).1≠c
  ·rw [if_pos hc] at hr;cases hr
  ·rw [if_neg hc] at hr ⊢;have hcc:DQ (Ax ns o).1=c:=Decidable.byContradiction fun e=>hc (.inr (.inr e))
   cases hbo:(rec o w).2.2 with
   | true =>
    have e:BV rec ns k os cs (rec o w)=(rec o w,false):=by
     apply gz ()
    rw [e,hbo] at hr;cases hr
   | false =>
    obtain ⟨i1,i2⟩:=Tu hb h os cs (rec o w) hbo hr (by simpa using hl);have b:=(hb o w (by omega) (by omega) hw).ok hbo;refine ⟨fun i hi=>?_,fun j h1 h2=>?_⟩
    ·cases i with
     | zero=>exact ⟨by show 0≤o;omega,by show o < k;omega,hcc⟩
     | succ i=>exact i1 i (by simpa using hi)
    ·by_cases hj:j≤o
     ·exact h o w (by omega) (by omega) hw hbo j h1 hj
     ·exact i2 j (by omega) h2
theorem YF:∀ (f:Nat) (k:Int) (w:Wk),0≤k→w.2.2=false→(DY ns f k w).2.2=false→∀ j,w.1≤j→j≤k→Tr ns j
 | 0,k,w,hk,hw,hr,j,h1,h2=>by cases hr
 | f+1,k,w,hk,hw,hr,j,h1,h2=>by
  rw [DY] at hr;by_cases hc:DQ (Ax ns k).1=0∨(Fh (Ax ns k).1 (Ax ns k).2.2.2.1.length).length≠(Ax ns k).2.2.2.1.length∨((Ax ns k).1=12∧(Ax ns k).2.1≠w.2.1)
  ·rw [if_pos hc] at hr;cases hr
  ·rw [if_neg hc] at hr;have hlen:(Fh (Ax ns k).1 (Ax ns k).2.2.2.1.length).length=(Ax ns k).2.2.2.1.length:=Decidable.byContradiction fun e=>hc (.inr (.inl e))
   have B:=MV (ns:=ns) (rec:=DY ns f) hk (fun o w ho hok hw=>JV f o w ho hw) (Ax ns k).2.2.2.1 (Fh (Ax ns k).1 (Ax ns k).2.2.2.1.length) (w.1,if (Ax ns k).1=12 then w.2.1+1 else w.2.1,w.2.2) hw;have L:=Tu (ns:=ns) (rec:=DY ns f) (k:=k) (fun o w ho hok hw=>JV f o w ho hw) (fun o w ho hok hw hr=>YF f o w ho hw hr) (Ax ns k).2.2.2.1 (Fh (Ax ns k).1 (Ax ns k).2.2.2.1.length) (w.1,if (Ax ns k).1=12 then w.2.1+1 else w.2.1,w.2.2) hw;simp only at hr L B;generalize hW:BV (DY ns f) ns k (Ax ns k).2.2.2.1 (Fh (Ax ns k).1 (Ax ns k).2.2.2.1.length) (w.1,if (Ax ns k).1=12 then w.2.1+1 else w.2.1,w.2.2)=r at *
   have hg:r.2=false:=by
    cases hg:r.2 with
    | false=>rfl
    | true =>
     rw [if_pos hg,(B.gave hg).1] at hr;cases hr
   rw [if_neg (by rw [hg];decide)] at hr;simp only [Bool.or_eq_false_iff,bne_eq_false_iff_eq] at hr;obtain ⟨L1,L2⟩:=L hr.1 hlen.symm;by_cases hj:j=k
   ·subst hj;exact ⟨fun e=>hc (.inl e),hlen,L1⟩
   ·exact L2 j h1 (by omega)
end
def RP (p:Pg):Prop:=∀ n∈p.2.1,n.1=1∨n.1=2∨n.1=7∨(n.1=12∧n.2.2.2.1.length≠3)∨n.1=15∨n.1=17
structure DI (p:Pg):Prop where
 n0:0 < p.2.1.length
 n4:p.2.1.length≤400
 rt:p.2.2.1=(p.2.1.length:Int) - 1
 rk:(Ax p.2.1 ((p.2.1.length:Int) - 1)).1=17
 ik:∀ i∈p.1,1≤i.2.1∧i.2.1≤4
 nd:∀ j:Int,0≤j→j < p.2.1.length→Tr p.2.1 j
 kd:RP p
 wk:(DY p.2.1 (p.2.1.length+1) ((p.2.1.length:Int) - 1) (0,0,false))=((p.2.1.length:Int),p.2.2.2.1,false)
theorem KT {p:Pg} (hkd:RP p) (h:CH p=true):DI p:=by
 unfold CH at h;simp only at h;by_cases h1:p.2.1.length=0∨p.2.1.length > 400∨p.2.2.1≠(p.2.1.length:Int) - 1
 ·rw [if_pos h1] at h;cases h
 ·rw [if_neg h1] at h;by_cases h2:(Ax p.2.1 ((p.2.1.length:Int) - 1)).1≠17
  ·rw [if_pos h2] at h;cases h
  ·rw [if_neg h2] at h
   cases h3:p.1.any (fun i=>decide (i.2.1 < 1∨i.2.1 > 4)) with
   | true=>rw [if_pos h3] at h;cases h
   | false =>
    rw [if_neg (by rw [h3];decide)] at h;simp only [Bool.and_eq_true,Bool.not_eq_true',decide_eq_true_eq] at h;obtain ⟨⟨w1,w2⟩,w3⟩:=h;have hall:=YF (ns:=p.2.1) (p.2.1.length+1) ((p.2.1.length:Int) - 1) (0,0,false) (by omega) rfl w1;refine ⟨by omega,by omega,by omega,Decidable.of_not_not h2,fun i hi=>?_,fun j h1 h2=>hall j h1 (by omega),hkd,?_⟩
    ·rw [List.any_eq_false] at h3;have:=h3 i hi;simp only [decide_eq_true_eq] at this;omega
    ·generalize DY p.2.1 (p.2.1.length+1) ((p.2.1.length:Int) - 1) (0,0,false)=r at *;obtain ⟨a,b,c⟩:=r;simp only at w1 w2 w3;rw [w1,w2,w3]
theorem SG {p:Pg} (hw:DI p) {k:Nat} (hk:k < p.2.1.length):(p.2.1[k]).1=1∨(p.2.1[k]).1=2∨(p.2.1[k]).1=7∨((p.2.1[k]).1=12∧(p.2.1[k]).2.2.2.1.length≠3)∨(p.2.1[k]).1=15∨(p.2.1[k]).1=17:=hw.kd _ (List.getElem_mem hk)
theorem Lm (s:By):∀ (l:List Nd) (i:Int),Fv s l i = -1∨∃ j:Nat,j < l.length∧Fv s l i=i+j∧(l.getD j N3).1=11∧(l.getD j N3).2.2.1=s
 | [],i=>.inl rfl
 | x::r,i=>by
  rw [Fv];by_cases h:x.1=11∧x.2.2.1=s
  ·rw [if_pos h];exact .inr ⟨0,by simp,by simp,h.1,h.2⟩
  ·rw [if_neg h];rcases Lm s r (i+1) with e|⟨j,h1,h2,h3,h4⟩
   ·exact .inl e
   ·exact .inr ⟨j+1,by simpa using h1,by rw [h2];push_cast;omega,h3,h4⟩
theorem SV {p:Pg} {s:By} (h:0≤Cl p s):∃ j:Nat,j < p.2.1.length∧Cl p s=j∧(Ax p.2.1 (j:Int)).1=11∧(Ax p.2.1 (j:Int)).2.2.1=s:=by
 rcases Lm s p.2.1 0 with e|⟨j,h1,h2,h3,h4⟩
 ·unfold Cl at h;omega
 ·exact ⟨j,h1,by unfold Cl;omega,h3,h4⟩
theorem Q9 {p:Pg}:∀ (l:List Nd) (i:Int),IP p l i=true→∀ j,j < l.length→((l.getD j N3).1=2→GX p (l.getD j N3).2.2.1=false→0≤Cl p (l.getD j N3).2.2.1∧Cl p (l.getD j N3).2.2.1≤i+j)
 | [],i,h,j,hj=>absurd hj (by simp)
 | x::r,i,h,j,hj=>by
  rw [IP] at h;split at h
  ·cases h
  ·split at h
   ·cases h
   ·rename_i h1 h2
    cases j with
    | zero =>
     intro e1 e2;have e1':x.1=2:=e1;have e2':GX p x.2.2.1=false:=e2;show 0≤Cl p x.2.2.1∧Cl p x.2.2.1≤i+((0:Nat):Int);constructor
     ·exact Decidable.byContradiction fun n=>h2 ⟨e1',e2',.inl (by omega)⟩
     ·exact Decidable.byContradiction fun n=>h2 ⟨e1',e2',.inr (by omega)⟩
    | succ j =>
     have:=Q9 r (i+1) h j (by simpa using hj);intro e1 e2;have t:=this e1 e2;refine ⟨t.1,?_⟩;have t2:=t.2;show Cl p (r.getD j N3).2.2.1≤_;omega
def P5 (p:Pg):Prop:=∀ j:Nat,j < p.2.1.length→(Ax p.2.1 (j:Int)).1=2→GX p (Ax p.2.1 (j:Int)).2.2.1=false→0≤Cl p (Ax p.2.1 (j:Int)).2.2.1∧Cl p (Ax p.2.1 (j:Int)).2.2.1≤j
theorem XB {p:Pg} (h:Fd p=true):P5 p:=by
 unfold Fd at h;rw [Bool.and_eq_true] at h;intro j hj h1 h2;have:=Q9 p.2.1 0 h.2 j hj h1 h2;exact ⟨this.1,by have h:=this.2;rw [Int.zero_add] at h;exact h⟩
theorem ZR {p:Pg} (hw:DI p) (hn:P5 p) {k:Nat} (hk:k < p.2.1.length) (h2:(Ax p.2.1 (k:Int)).1=2) (hi:GX p (Ax p.2.1 (k:Int)).2.2.1=false) :
  ∃ q o:Nat,∃ hq:q < p.2.1.length,∃ h0:0 < (p.2.1[q]).2.2.2.1.length,Cl p (Ax p.2.1 (k:Int)).2.2.1=q∧q < k∧o < q∧(p.2.1[q]).2.2.2.1[0]=(o:Int):=by
 obtain ⟨a1,a2⟩:=hn k hk h2 hi;obtain ⟨q,b1,b2,b3,b4⟩:=SV a1
 have hqk:q < k:=by
  rcases Nat.lt_or_ge q k with h|h
  ·exact h
  ·have e:q=k:=by omega
   rw [e,h2] at b3;cases b3
 have N:=hw.nd (q:Int) (by omega) (by omega);have e:=BG b1;have hl:=N.len;rw [b3] at hl
 have hl1:(Ax p.2.1 (q:Int)).2.2.2.1.length=1:=by
  rw [← hl];rfl
 obtain ⟨c1,c2,_⟩:=N.ofs 0 (by omega);have h0:0 < (p.2.1[q]).2.2.2.1.length:=by rw [← e];omega
 have e0:BB (Ax p.2.1 (q:Int)) 0=(p.2.1[q]).2.2.2.1[0]:=by
  rw [e];unfold BB;rw [List.getD_eq_getElem?_getD,List.getElem?_eq_getElem h0];rfl
 rw [e0] at c1 c2;exact ⟨q,((p.2.1[q]).2.2.2.1[0]).toNat,b1,h0,b2,hqk,by omega,by omega⟩
abbrev YD (p:Pg) (f:Nat):Prop:=∀ {S M} (w:World) (si sn:Sv) (k:Nat),St S M w→Du S si sn p→DI p→P5 p→k < p.2.1.length→k+1≤f →
  Ad Tryz.prog 111 [CR si sn p,.int .i64 (k:Int)] w fun v w'=>v=.int .i64 (Ey p f k)∧St S M w'
theorem TG (p:Pg) (f:Nat) (ih:YD p f):YD p (f+1):=fun {S M} w si sn k hst hp hw hnm hk hf=>by
 unfold Ad;obtain ⟨R,hR⟩:∃ R,Ey p (f+1) k=R:=⟨_,rfl⟩
 rw [hR];rw [Ey] at hR;have hn:=hp.n;have hi:=hp.i;have hln:=hp.ln;have hx:=BG hk;have cI:=fun {M:List Chunk} (w:World) (hst:St S M w) s=>N9 w hst si sn p hp s
 have cF:=fun {M:List Chunk} (w:World) (hst:St S M w) s=>Ns w hst si sn p hp s
 have HP:=Lib.hid hp;by_cases h6:(Ax p.2.1 (k:Int)).1≥6
 ·rw [if_pos h6] at hR;subst hR;rw [hx] at h6;apply ii ()
 ·rw [if_neg h6] at hR;by_cases h2:(Ax p.2.1 (k:Int)).1≠2
  ·rw [if_pos h2] at hR;subst hR;rw [hx] at h6 h2;apply ii ()
  ·rw [if_neg h2] at hR;have h2:=Decidable.of_not_not h2
   cases hin:GX p (Ax p.2.1 (k:Int)).2.2.1 with
   | true =>
    rw [if_pos hin] at hR;subst hR;rw [hx] at h2 hin;have cI2:=fun {M:List Chunk} (w:World) (hst:St S M w)=>cI w hst (p.2.1[k]).2.2.1
    rw [hin] at cI2;have h2':Hid (p.2.1[k].1=2):=Lib.hid h2;have h7:2≤p.2.1[k].1∧p.2.1[k].1≤2:=by omega
    clear hx hp hw hnm h2 h6 hin cI;go_enter Tryz.func111,Tryz.ntmps111;repeat' ((apply Z1 ());first|(apply gK ();go_step)|(apply sB ();clear hst;intro bx w hst)|fail)
    refine wp_region_lit ?_;repeat' (first|(apply gK ();go_step)|apply sX ()|(apply sD ();intro cl hcl)|(apply sI ();intro v hp)|(apply sA ();clear hst;intro bk w hst)|fail)
    obtain ⟨so,rfl,ho,hI1,hI2,hI3⟩:=BT hcl;clear hcl;rw [show Rep.agg Nd=true from rfl];(try refine nX ?_);repeat' (first|(apply gK ();go_step)|(apply kc ();refine sc (cI2 _ hst) ?_;clear hst;rintro v w ⟨rfl,hst⟩)|apply sX ()|(apply sS ();clear hst;intro w hst)|fail)
    all_goals first
     | (exfalso;omega)
     | (go_ret;exact ⟨_,rfl,rfl,hst.sub⟩)
   | false =>
    rw [if_neg (by rw [hin];decide)] at hR;obtain ⟨q,o,hq,h0,e1,hqk,hoq,e2⟩:=ZR hw hnm hk h2 hin
    have e3:(Ax p.2.1 (Cl p (Ax p.2.1 (k:Int)).2.2.1)).2.2.2.1.getD 0 0=(o:Int):=by
     rw [e1,BG hq,List.getD_eq_getElem?_getD,List.getElem?_eq_getElem h0,← e2];rfl
    rw [e3] at hR;have cT:=fun {S':Ac} {M:List Chunk} (w:World) (hS:S.Le S') (hst:St S' M w)=>ih w si sn o hst (hp.mono hS) hw hnm (by omega) (by omega)
    rw [← e2] at cT hR;rw [hR] at cT;rw [hx] at h2 hin e1;have cI2:=fun {M:List Chunk} (w:World) (hst:St S M w)=>cI w hst (p.2.1[k]).2.2.1
    have cF2:=fun {S':Ac} {M:List Chunk} (w:World) (hS:S.Le S') (hst:St S' M w)=>Ns w hst si sn p (hp.mono hS) (p.2.1[k]).2.2.1
    rw [hin] at cI2;rw [e1] at cF2;have h7:2≤p.2.1[k].1∧p.2.1[k].1≤2:=by omega
    clear hx hp hw hnm h2 h6 hin cI cF e1 e2 e3 hR;go_enter Tryz.func111,Tryz.ntmps111;repeat' ((apply Z1 ());first|(apply gK ();go_step)|(apply sB ();clear hst;intro bx w hst)|fail)
    refine wp_region_lit ?_;repeat' (first|(apply gK ();go_step)|apply sX ()|(apply sD ();intro cl hcl)|(apply sI ();intro v hp)|(apply sA ();clear hst;intro bk w hst)|fail)
    obtain ⟨so,rfl,ho,hI1,hI2,hI3⟩:=BT hcl;clear hcl;rw [show Rep.agg Nd=true from rfl];(try refine nX ?_);repeat' ((apply Z9 ());first|(apply gK ();go_step)|(apply kc ();refine sc (cI2 _ hst) ?_;clear hst;rintro v w ⟨rfl,hst⟩)|apply sX ()|(apply sS ();clear hst;intro w hst)|fail)
    refine AF hst kr ?_;clear hst;intro ops;(try refine nX ?_);refine td 0 rfl ?_;refine td 1 rfl ?_;refine td 2 rfl ?_;refine td 3 rfl ?_;refine td 4 rfl ?_;refine td 5 rfl ?_;(refine Ba 6 rfl kr rfl (fun S' M' w hS hM hst=>cF2 w hS hst) Aa rfl ?_)<;>(try refine nX ?_)
    refine tx 7 rfl (Ao Ab Ak rfl Aa Aa Af Af) ?_;rintro v hp;replace hp:=iN hp;refine tx 8 rfl (Ah Ab Ak Aa Aa rfl) ?_;rintro v hp;replace hp:=iN hp;refine tx 9 rfl (Ae Ab Ak Aa) ?_;rintro v ⟨hvl,hv1⟩;refine tx 10 rfl (Ao Ab Ak rfl Aa Aa Af Af) ?_;rintro v hp;replace hp:=iN hp;refine tx 11 rfl (Am Ab Ak Aa) ?_;rintro v ⟨rfl,hI⟩;(refine Ba 12 rfl kr rfl (fun S' M' w hS hM hst=>cT w hS hst) Aa rfl ?_)<;>(try refine nX ?_)
    refine td 13 rfl ?_;apply gE ()
theorem L3 (p:Pg):∀ f,YD p f
 | 0=>fun w si sn k _ _ _ _ _ hf=>absurd hf (by omega)
 | f+1=>TG p f (L3 p f)
end Go.Proofs.YtmmbidoldegemaaGreatDoor
