/- Part 16 of the proof that the law of the last part holds; no conditions. -/
import Derived.Test.YtmmbidoldegemaaGreatDoorZ14
set_option linter.unusedSimpArgs false
set_option linter.unusedVariables false
set_option maxRecDepth 8000
set_option maxHeartbeats 8000000
namespace Go.Proofs.YtmmbidoldegemaaGreatDoor
open Go.RowKit Go.Sl
theorem OH {S M} (w:World) (hst:St S M w) (hG:Bo S) (p:Value) (m:Dg) (hp:Pt S p m) (i:Int) (hi:Au i) :
  Ad Tryz.prog 90 [.int .i64 i,p] w fun v w'=>v=.agg (u8s (Dq 7 [Bm i,m.l])).toArray∧St S M w':=by
 unfold Ad
 haveI:LenIs (Dq 7 [Bm i,m.l]) 16:=⟨Ch _ _⟩
 have hm16:m.l.length=16:=by obtain ⟨b,o,c,T,fz,_,_,h⟩:=hp;exact h.1
 have hpo:=hp;obtain ⟨b0,o0,c0,T0,fz0,rfl,_,_⟩:=hpo;go_enter Tryz.func90,Tryz.ntmps90;repeat' (first|(apply gK ();go_step)|(apply sZ ();clear hst;intro bk w hst)|fail)
 refine AF hst kr ?_;clear hst;intro ops;(try refine nY ?_);refine td 0 rfl ?_;refine tx 2 rfl (Gk Ab hp) ?_;rintro v2 hv2;refine AR 1 rfl kr ?_;intro w hst K hK;refine B9 (GB w hst i hi) Aa rfl ?_;clear hst;rintro v1 w ⟨S1,hS1,hv1,hv11,hst⟩;replace hv2:=hv2.mono hS1;(try refine nY ?_);(try replace hst:=nH hst);refine Bn hK hst hS1 (Suf.refl _) ?_;clear hst hK K;(try clear w);(try refine nY ?_);refine AR 3 rfl kr ?_;intro w hst K hK;refine DT hst (.cons hv1 (.cons hv2 .nil)) Aa Aa rfl rfl (by omega) ?_;clear hst;intro S3 u3 w hS3 hu3 hu31 hst;(try refine nY ?_);(try replace hst:=nH hst);refine Bn hK hst hS3 (Suf.refl _) ?_;clear hst hK K;(try clear w);(try refine nY ?_);(refine Ba 4 rfl kr rfl (fun S' M' w hS hM hst=>EG w hst (((hG.mono hS1).mono hS3).mono hS) 7 (by omega) _ _ (hu3.mono hS) (Nat.le_trans (R4 (C8 i) (Nat.le_of_eq hm16)) (by omega))) Aa rfl ?_)<;>(try refine nY ?_)
 refine AR 5 rfl kr ?_;intro w hst K hK;(refine FX hst rfl BoxIn.h Aa Ab Aa H6 ?_);clear hst;intro w hst;(try refine nY ?_);(try replace hst:=nH hst);refine Bb hK hst ?_;clear hst hK K;(try clear w);(try refine nY ?_);refine AK kr ?_;clear ops;intro w hst;repeat' (first|(apply gK ();go_step)|fail)
 exact Jr rfl hst rfl BoxIn.h Aa Aa ⟨_,rfl,rfl,St.weaken (hS1.trans hS3) hst.drop⟩
theorem QN {S M} (w:World) (hst:St S M w) (hG:Bo S) (m:Dg) (hm:m.l.length=16) :
  Ad Tryz.prog 50 [Cu m] w fun v w'=>v=K9 (FU m)∧St S M w':=by
 unfold Ad;have c0:=fun {S:Ac} {M:List Chunk} (w:World) (hst:St S M w) (hG:Bo S) (p:Value) (hp:Pt S p m)=>OH w hst hG p m hp 0 (by unfold Au;omega)
 have c1:=fun {S:Ac} {M:List Chunk} (w:World) (hst:St S M w) (hG:Bo S) (p:Value) (hp:Pt S p m)=>OH w hst hG p m hp 1 (by unfold Au;omega)
 have hX:Hid (FU m=(⟨Dq 7 [Bm 0,m.l]⟩,⟨Dq 7 [Bm 1,m.l]⟩,())):=Lib.hid rfl;have l0:(Dq 7 [Bm 0,m.l]).length=16:=Ch _ _;have l1:(Dq 7 [Bm 1,m.l]).length=16:=Ch _ _;generalize Dq 7 [Bm 0,m.l]=D0 at *;generalize Dq 7 [Bm 1,m.l]=D1 at *;have hok:Er (⟨D0⟩,⟨D1⟩,()):=⟨l0,l1⟩
 go_enter Tryz.func50,Tryz.ntmps50;repeat' ((apply Z1 ());first|(apply gK ();go_step)|(apply sC ();clear hst;intro bx w hst)|(apply sZ ();clear hst;intro bk w hst)|fail)
 obtain ⟨S1,hS1,hst,hp⟩:=AC (α:=Dg) hst.swap (Bi hm) (by rw [A8];exact hm);replace hG:=hG.mono hS1;have hrk:Rep.R S1 (Fk (⟨D0⟩,⟨D1⟩,())) ((⟨D0⟩,⟨D1⟩,()):Rg):=C1 hok;repeat' (first|(with_reducible refine kU ?_;with_unfolding_all refine Ag hst (FK Ks Aa Aa (C1 J7) (.cons (k:=0) (v:=Cu ⟨D0⟩) (y:=(⟨D0⟩:Dg)) (Bi l0) rfl (.cons (k:=1) (v:=Cu ⟨D1⟩) (y:=(⟨D1⟩:Dg)) (Bi l1) rfl .nil))) ?_<;>(try refine nY ?_))|(apply gK ();go_step)|(with_reducible refine kC ?_;refine DU (c0 _ hst hG _ hp) rfl Aa rfl rfl ?_;clear hst;rintro v w ⟨rfl,hst⟩<;>(try refine nY ?_)<;>(try replace hst:=nH hst))|(with_reducible refine kC ?_;refine DU (c1 _ hst hG _ hp) rfl Aa rfl rfl ?_;clear hst;rintro v w ⟨rfl,hst⟩<;>(try refine nY ?_)<;>(try replace hst:=nH hst))|fail)
 refine CN hst rfl BoxIn.h Aa (x0:=((⟨D0⟩,⟨D1⟩,()):Rg)) (cs:=Fk (⟨D0⟩,⟨D1⟩,())) Ab (C1 hok) rfl ?_;clear hst;intro w hst;(try refine nY ?_);(try replace hst:=nH hst);repeat' (first|(apply gK ();go_step)|fail)
 exact Oq rfl hst rfl BoxIn.h Aa (C1 hok) ⟨_,rfl,by rw [hX.out],St.weaken hS1 hst.drop⟩
theorem PE {S M} (w:World) (hst:St S M w) (hG:Bo S) (r:Rg) (hr:Er r) (h:Hd) (hh:Fo h) :
  Ad Tryz.prog 52 [K9 r,Vj h] w fun v w'=>v=K9 (Gm r h)∧St S M w':=by
 unfold Ad;have hX:Hid (Gm r h=(⟨Dq 9 [r.1.l,h.1.l,Bm h.2.2.1,h.2.2.2.1.l,h.2.2.2.2.1.l,Bm h.2.2.2.2.2.1]⟩,⟨Dq 9 [r.2.1.l,h.2.1.l]⟩,())):=Lib.hid rfl;have hl1:=hr.a;have hl2:=hr.b;have hl3:=hh.a;have hl4:=hh.b;have hl5:=hh.d;have hl6:=hh.e;have hi1:=hh.c;have hi2:=hh.f;have he1:=C8 h.2.2.1;have he2:=C8 h.2.2.2.2.2.1;have cA:=fun {S:Ac} {M:List Chunk} (w:World) (hst:St S M w) (hG:Bo S) (vp:Value) (hp:RSl S vp [r.1.l,h.1.l,Bm h.2.2.1,h.2.2.2.1.l,h.2.2.2.2.1.l,Bm h.2.2.2.2.2.1])=>EG w hst hG 9 (by omega) vp _ hp (by simp [CF];omega)
 have cB:=fun {S:Ac} {M:List Chunk} (w:World) (hst:St S M w) (hG:Bo S) (vp:Value) (hp:RSl S vp [r.2.1.l,h.2.1.l])=>EG w hst hG 9 (by omega) vp _ hp (by simp [CF];omega)
 have l0:(Dq 9 [r.1.l,h.1.l,Bm h.2.2.1,h.2.2.2.1.l,h.2.2.2.2.1.l,Bm h.2.2.2.2.2.1]).length=16:=Ch _ _;have l1:(Dq 9 [r.2.1.l,h.2.1.l]).length=16:=Ch _ _;generalize Dq 9 [r.1.l,h.1.l,Bm h.2.2.1,h.2.2.2.1.l,h.2.2.2.2.1.l,Bm h.2.2.2.2.2.1]=D0 at *;generalize Dq 9 [r.2.1.l,h.2.1.l]=D1 at *;have hx:Er (⟨D0⟩,⟨D1⟩,()):=⟨l0,l1⟩
 go_enter Tryz.func52,Tryz.ntmps52;repeat' ((apply Z1 ());first|(apply gK ();go_step)|(apply sC ();clear hst;intro bx w hst)|(apply sZ ();clear hst;intro bk w hst)|fail)
 obtain ⟨S1,hS1,hst,hph⟩:=AC (α:=Hd) (hst.perm (List.Perm.swap _ _ _)) (CS hh) (Rep.len (S:=S) (CS hh));obtain ⟨S2,hS2,hst,hpr⟩:=AC (α:=Rg) hst.swap (C1 hr) (Rep.len (S:=S) (C1 hr));replace hph:=hph.mono hS2;replace hG:=(hG.mono hS1).mono hS2;have hle:=Ac.Le.refl S2;refine AF hst kr ?_;clear hst;intro ops;(try refine nY ?_);refine tx 0 rfl (Ah Ab hpr Aa Aa rfl) ?_;rintro vf hpf;refine tx 1 rfl (Gk Ab Ak) ?_;rintro v1 hv1;refine tx 2 rfl (Ah Ab hph Aa Aa rfl) ?_;rintro vf hpf;refine tx 3 rfl (Gk Ab Ak) ?_;rintro v3 hv3;refine tx 4 rfl (Ah Ab hph Aa Aa rfl) ?_;rintro vf hpf;refine tx 5 rfl (Am Ab Ak Aa) ?_;rintro v ⟨rfl,hI⟩;refine tx 7 rfl (Ah Ab hph Aa Aa rfl) ?_;rintro vf hpf;refine tx 8 rfl (Gk Ab Ak) ?_;rintro v8 hv8;refine tx 9 rfl (Ah Ab hph Aa Aa rfl) ?_;rintro vf hpf;refine tx 10 rfl (Gk Ab Ak) ?_;rintro v10 hv10;refine tx 11 rfl (Ah Ab hph Aa Aa rfl) ?_;rintro vf hpf;refine tx 12 rfl (Am Ab Ak Aa) ?_;rintro v ⟨rfl,hI⟩;refine tx 16 rfl (Ah Ab hpr Aa Aa rfl) ?_;rintro vf hpf;refine tx 17 rfl (Gk Ab Ak) ?_;rintro v17 hv17;refine tx 18 rfl (Ah Ab hph Aa Aa rfl) ?_;rintro vf hpf;refine tx 19 rfl (Gk Ab Ak) ?_;rintro v19 hv19;refine Om 6 20 rfl rfl kr ?_ ?_
 intro w hst K hK;refine B9 (GB w hst _ hi1) Aa rfl ?_;clear hst;rintro v6 w ⟨S6,hS6,hv6,hv61,hst⟩;replace hG:=hG.mono hS6;replace hle:=hle.trans hS6;replace hv1:=hv1.mono hS6;replace hv3:=hv3.mono hS6;replace hv8:=hv8.mono hS6;replace hv10:=hv10.mono hS6;(try replace hv17:=hv17.mono hS6);(try replace hv19:=hv19.mono hS6);(try replace hv20:=hv20.mono hS6);(try refine nY ?_);(try replace hst:=nH hst);refine Bn hK hst hS6 (Suf.refl _) ?_;clear hst hK K;(try clear w);(try refine nY ?_);refine Om 13 20 rfl rfl kr ?_ ?_;intro w hst K hK;refine B9 (GB w hst _ hi2) Aa rfl ?_;clear hst;rintro v13 w ⟨S13,hS13,hv13,hv131,hst⟩;replace hG:=hG.mono hS13;replace hle:=hle.trans hS13;replace hv1:=hv1.mono hS13;replace hv3:=hv3.mono hS13;replace hv8:=hv8.mono hS13;replace hv10:=hv10.mono hS13;(try replace hv6:=hv6.mono hS13);(try replace hv17:=hv17.mono hS13);(try replace hv19:=hv19.mono hS13);(try replace hv20:=hv20.mono hS13);(try refine nY ?_);(try replace hst:=nH hst);refine Bn hK hst hS13 (Suf.refl _) ?_;clear hst hK K;(try clear w);(try refine nY ?_);refine Om 14 20 rfl rfl kr ?_ ?_
 intro w hst K hK;refine DT hst (.cons hv1 (.cons hv3 (.cons hv6 (.cons hv8 (.cons hv10 (.cons hv13 .nil)))))) Aa Aa rfl rfl (by omega) ?_;clear hst;intro S14 v14 w hS14 hv14 hv141 hst;replace hG:=hG.mono hS14;replace hle:=hle.trans hS14;replace hv1:=hv1.mono hS14;replace hv3:=hv3.mono hS14;replace hv8:=hv8.mono hS14;replace hv10:=hv10.mono hS14;(try replace hv17:=hv17.mono hS14);(try replace hv19:=hv19.mono hS14);(try replace hv20:=hv20.mono hS14);(try refine nY ?_);(try replace hst:=nH hst);refine Bn hK hst hS14 (Suf.refl _) ?_;clear hst hK K;(try clear w);(try refine nY ?_);(refine Ba 15 rfl kr rfl (fun S' M' w hS hM hst=>cA w hst (hG.mono hS) _ (hv14.mono hS)) Aa rfl ?_)<;>(try refine nY ?_)
 refine AR 20 rfl kr ?_;intro w hst K hK;refine DT hst (.cons hv17 (.cons hv19 .nil)) Aa Aa rfl rfl (by omega) ?_;clear hst;intro S20 v20 w hS20 hv20 hv201 hst;replace hG:=hG.mono hS20;replace hle:=hle.trans hS20;replace hv1:=hv1.mono hS20;replace hv3:=hv3.mono hS20;replace hv8:=hv8.mono hS20;replace hv10:=hv10.mono hS20;(try replace hv6:=hv6.mono hS20);(try replace hv13:=hv13.mono hS20);(try replace hv14:=hv14.mono hS20);(try refine nY ?_);(try replace hst:=nH hst);refine Bn hK hst hS20 (Suf.refl _) ?_;clear hst hK K;(try clear w);(try refine nY ?_);(refine Ba 21 rfl kr rfl (fun S' M' w hS hM hst=>cB w hst (hG.mono hS) _ (hv20.mono hS)) Aa rfl ?_)<;>(try refine nY ?_)
 refine tq 22 rfl (FK Ks Aa Aa (C1 J7) (.cons (k:=0) (v:=Cu ⟨D0⟩) (y:=(⟨D0⟩:Dg)) (Bi l0) rfl (.cons (k:=1) (v:=Cu ⟨D1⟩) (y:=(⟨D1⟩:Dg)) (Bi l1) rfl .nil))) ?_;refine AR 23 rfl kr ?_;intro w hst K hK;refine CN hst rfl BoxIn.h Aa (x0:=((⟨D0⟩,⟨D1⟩,()):Rg)) (cs:=Fk (⟨D0⟩,⟨D1⟩,())) Ab (C1 hx) rfl ?_;clear hst;intro w hst;(try refine nY ?_);(try replace hst:=nH hst);refine Bb hK hst ?_;clear hst hK K;(try clear w);(try refine nY ?_);refine AK kr ?_;clear ops;intro w hst;rotate_left;intro w hst K hK;refine DT hst (.cons hv17 (.cons hv19 .nil)) Aa Aa rfl rfl (by omega) ?_;clear hst;intro S20 v20 w hS20 hv20 hv201 hst;replace hG:=hG.mono hS20;replace hle:=hle.trans hS20;replace hv1:=hv1.mono hS20;replace hv3:=hv3.mono hS20;replace hv8:=hv8.mono hS20;replace hv10:=hv10.mono hS20;(try replace hv6:=hv6.mono hS20);(try replace hv13:=hv13.mono hS20);(try replace hv14:=hv14.mono hS20);(try refine nY ?_);(try replace hst:=nH hst);refine Bn hK hst hS20 (Suf.refl _) ?_;clear hst hK K;(try clear w);(try refine nY ?_)
 refine AR 14 rfl kr ?_;intro w hst K hK;refine DT hst (.cons hv1 (.cons hv3 (.cons hv6 (.cons hv8 (.cons hv10 (.cons hv13 .nil)))))) Aa Aa rfl rfl (by omega) ?_;clear hst;intro S14 v14 w hS14 hv14 hv141 hst;replace hG:=hG.mono hS14;replace hle:=hle.trans hS14;replace hv1:=hv1.mono hS14;replace hv3:=hv3.mono hS14;replace hv8:=hv8.mono hS14;replace hv10:=hv10.mono hS14;(try replace hv17:=hv17.mono hS14);(try replace hv19:=hv19.mono hS14);(try replace hv20:=hv20.mono hS14);(try refine nY ?_);(try replace hst:=nH hst);refine Bn hK hst hS14 (Suf.refl _) ?_;clear hst hK K;(try clear w);(try refine nY ?_);(refine Ba 15 rfl kr rfl (fun S' M' w hS hM hst=>cA w hst (hG.mono hS) _ (hv14.mono hS)) Aa rfl ?_)<;>(try refine nY ?_)
 (refine Ba 21 rfl kr rfl (fun S' M' w hS hM hst=>cB w hst (hG.mono hS) _ (hv20.mono hS)) Aa rfl ?_)<;>(try refine nY ?_)
 refine tq 22 rfl (FK Ks Aa Aa (C1 J7) (.cons (k:=0) (v:=Cu ⟨D0⟩) (y:=(⟨D0⟩:Dg)) (Bi l0) rfl (.cons (k:=1) (v:=Cu ⟨D1⟩) (y:=(⟨D1⟩:Dg)) (Bi l1) rfl .nil))) ?_;refine AR 23 rfl kr ?_;intro w hst K hK;refine CN hst rfl BoxIn.h Aa (x0:=((⟨D0⟩,⟨D1⟩,()):Rg)) (cs:=Fk (⟨D0⟩,⟨D1⟩,())) Ab (C1 hx) rfl ?_;clear hst;intro w hst;(try refine nY ?_);(try replace hst:=nH hst);refine Bb hK hst ?_;clear hst hK K;(try clear w);(try refine nY ?_);refine AK kr ?_;clear ops;intro w hst;rotate_left;intro w hst K hK;refine DT hst (.cons hv17 (.cons hv19 .nil)) Aa Aa rfl rfl (by omega) ?_;clear hst;intro S20 v20 w hS20 hv20 hv201 hst;replace hG:=hG.mono hS20;replace hle:=hle.trans hS20;replace hv1:=hv1.mono hS20;replace hv3:=hv3.mono hS20;replace hv8:=hv8.mono hS20;replace hv10:=hv10.mono hS20;(try replace hv6:=hv6.mono hS20);(try replace hv13:=hv13.mono hS20);(try replace hv14:=hv14.mono hS20);(try refine nY ?_);(try replace hst:=nH hst);refine Bn hK hst hS20 (Suf.refl _) ?_;clear hst hK K;(try clear w);(try refine nY ?_)
 refine AR 13 rfl kr ?_;intro w hst K hK;refine B9 (GB w hst _ hi2) Aa rfl ?_;clear hst;rintro v13 w ⟨S13,hS13,hv13,hv131,hst⟩;replace hG:=hG.mono hS13;replace hle:=hle.trans hS13;replace hv1:=hv1.mono hS13;replace hv3:=hv3.mono hS13;replace hv8:=hv8.mono hS13;replace hv10:=hv10.mono hS13;(try replace hv6:=hv6.mono hS13);(try replace hv17:=hv17.mono hS13);(try replace hv19:=hv19.mono hS13);(try replace hv20:=hv20.mono hS13);(try refine nY ?_);(try replace hst:=nH hst);refine Bn hK hst hS13 (Suf.refl _) ?_;clear hst hK K;(try clear w);(try refine nY ?_);refine AR 14 rfl kr ?_;intro w hst K hK;refine DT hst (.cons hv1 (.cons hv3 (.cons hv6 (.cons hv8 (.cons hv10 (.cons hv13 .nil)))))) Aa Aa rfl rfl (by omega) ?_;clear hst;intro S14 v14 w hS14 hv14 hv141 hst;replace hG:=hG.mono hS14;replace hle:=hle.trans hS14;replace hv1:=hv1.mono hS14;replace hv3:=hv3.mono hS14;replace hv8:=hv8.mono hS14;replace hv10:=hv10.mono hS14;(try replace hv17:=hv17.mono hS14);(try replace hv19:=hv19.mono hS14);(try replace hv20:=hv20.mono hS14);(try refine nY ?_);(try replace hst:=nH hst);refine Bn hK hst hS14 (Suf.refl _) ?_;clear hst hK K;(try clear w);(try refine nY ?_);(refine Ba 15 rfl kr rfl (fun S' M' w hS hM hst=>cA w hst (hG.mono hS) _ (hv14.mono hS)) Aa rfl ?_)<;>(try refine nY ?_)
 (refine Ba 21 rfl kr rfl (fun S' M' w hS hM hst=>cB w hst (hG.mono hS) _ (hv20.mono hS)) Aa rfl ?_)<;>(try refine nY ?_)
 refine tq 22 rfl (FK Ks Aa Aa (C1 J7) (.cons (k:=0) (v:=Cu ⟨D0⟩) (y:=(⟨D0⟩:Dg)) (Bi l0) rfl (.cons (k:=1) (v:=Cu ⟨D1⟩) (y:=(⟨D1⟩:Dg)) (Bi l1) rfl .nil))) ?_;refine AR 23 rfl kr ?_;intro w hst K hK;refine CN hst rfl BoxIn.h Aa (x0:=((⟨D0⟩,⟨D1⟩,()):Rg)) (cs:=Fk (⟨D0⟩,⟨D1⟩,())) Ab (C1 hx) rfl ?_;clear hst;intro w hst;(try refine nY ?_);(try replace hst:=nH hst);refine Bb hK hst ?_;clear hst hK K;(try clear w);(try refine nY ?_);refine AK kr ?_;clear ops;intro w hst;rotate_left;intro w hst K hK;refine DT hst (.cons hv17 (.cons hv19 .nil)) Aa Aa rfl rfl (by omega) ?_;clear hst;intro S20 v20 w hS20 hv20 hv201 hst;replace hG:=hG.mono hS20;replace hle:=hle.trans hS20;replace hv1:=hv1.mono hS20;replace hv3:=hv3.mono hS20;replace hv8:=hv8.mono hS20;replace hv10:=hv10.mono hS20;(try replace hv6:=hv6.mono hS20);(try replace hv13:=hv13.mono hS20);(try replace hv14:=hv14.mono hS20);(try refine nY ?_);(try replace hst:=nH hst);refine Bn hK hst hS20 (Suf.refl _) ?_;clear hst hK K;(try clear w);(try refine nY ?_)
 refine AR 6 rfl kr ?_;intro w hst K hK;refine B9 (GB w hst _ hi1) Aa rfl ?_;clear hst;rintro v6 w ⟨S6,hS6,hv6,hv61,hst⟩;replace hG:=hG.mono hS6;replace hle:=hle.trans hS6;replace hv1:=hv1.mono hS6;replace hv3:=hv3.mono hS6;replace hv8:=hv8.mono hS6;replace hv10:=hv10.mono hS6;(try replace hv17:=hv17.mono hS6);(try replace hv19:=hv19.mono hS6);(try replace hv20:=hv20.mono hS6);(try refine nY ?_);(try replace hst:=nH hst);refine Bn hK hst hS6 (Suf.refl _) ?_;clear hst hK K;(try clear w);(try refine nY ?_);refine AR 13 rfl kr ?_;intro w hst K hK;refine B9 (GB w hst _ hi2) Aa rfl ?_;clear hst;rintro v13 w ⟨S13,hS13,hv13,hv131,hst⟩;replace hG:=hG.mono hS13;replace hle:=hle.trans hS13;replace hv1:=hv1.mono hS13;replace hv3:=hv3.mono hS13;replace hv8:=hv8.mono hS13;replace hv10:=hv10.mono hS13;(try replace hv6:=hv6.mono hS13);(try replace hv17:=hv17.mono hS13);(try replace hv19:=hv19.mono hS13);(try replace hv20:=hv20.mono hS13);(try refine nY ?_);(try replace hst:=nH hst);refine Bn hK hst hS13 (Suf.refl _) ?_;clear hst hK K;(try clear w);(try refine nY ?_)
 refine AR 14 rfl kr ?_;intro w hst K hK;refine DT hst (.cons hv1 (.cons hv3 (.cons hv6 (.cons hv8 (.cons hv10 (.cons hv13 .nil)))))) Aa Aa rfl rfl (by omega) ?_;clear hst;intro S14 v14 w hS14 hv14 hv141 hst;replace hG:=hG.mono hS14;replace hle:=hle.trans hS14;replace hv1:=hv1.mono hS14;replace hv3:=hv3.mono hS14;replace hv8:=hv8.mono hS14;replace hv10:=hv10.mono hS14;(try replace hv17:=hv17.mono hS14);(try replace hv19:=hv19.mono hS14);(try replace hv20:=hv20.mono hS14);(try refine nY ?_);(try replace hst:=nH hst);refine Bn hK hst hS14 (Suf.refl _) ?_;clear hst hK K;(try clear w);(try refine nY ?_);(refine Ba 15 rfl kr rfl (fun S' M' w hS hM hst=>cA w hst (hG.mono hS) _ (hv14.mono hS)) Aa rfl ?_)<;>(try refine nY ?_)
 (refine Ba 21 rfl kr rfl (fun S' M' w hS hM hst=>cB w hst (hG.mono hS) _ (hv20.mono hS)) Aa rfl ?_)<;>(try refine nY ?_)
 refine tq 22 rfl (FK Ks Aa Aa (C1 J7) (.cons (k:=0) (v:=Cu ⟨D0⟩) (y:=(⟨D0⟩:Dg)) (Bi l0) rfl (.cons (k:=1) (v:=Cu ⟨D1⟩) (y:=(⟨D1⟩:Dg)) (Bi l1) rfl .nil))) ?_;refine AR 23 rfl kr ?_;intro w hst K hK;refine CN hst rfl BoxIn.h Aa (x0:=((⟨D0⟩,⟨D1⟩,()):Rg)) (cs:=Fk (⟨D0⟩,⟨D1⟩,())) Ab (C1 hx) rfl ?_;clear hst;intro w hst;(try refine nY ?_);(try replace hst:=nH hst);refine Bb hK hst ?_;clear hst hK K;(try clear w);(try refine nY ?_);refine AK kr ?_;clear ops;intro w hst;rotate_left
 all_goals
  repeat' (first|(apply gK ();go_step)|fail)
  exact Oq rfl hst rfl BoxIn.h Aa (C1 hx) ⟨_,rfl,by rw [hX.out],St.weaken ((hS1.trans hS2).trans hle) hst.drop⟩
def EF (m:Dg) (log:List Ev):Rg:=log.foldl (fun r e=>Gm r (AE e)) (FU m)
def Nv (e:Ev):Prop:=e.2.1.length≤1000∧e.2.2.1.length≤1000∧e.2.2.2.1.length≤1000
theorem PA:∀ (log:List Ev) (r:Rg),Er r→Er (log.foldl (fun r e=>Gm r (AE e)) r)
 | [],_,h=>h
 | e::log,r,_=>PA log _ (Rs r (AE e))
theorem PB (m:Dg) (log:List Ev):Er (EF m log):=PA log _ (Ij m)
theorem LH {S:Ac} {cs:List Value} {e:Ev} (h:Rep.R S cs e) (k:Nv e):Fo (AE e):=by
 obtain ⟨h1,h2⟩:=PG h;obtain ⟨_,k2,_⟩:=k;exact ⟨h1,Ch _ _,by unfold Au;show (-9223372036854775808:Int)≤(e.2.2.1.length:Int)∧(e.2.2.1.length:Int)≤9223372036854775807;omega,Cm _,Cm _,h2⟩
theorem aC {S M} (w:World) (hst:St S M w) (vl:Value) (log:List Ev) (hl:RSl S vl log) :
  Ad Tryz.prog 51 [vl] w fun v w'=>∃ S' p,S.Le S'∧v=.func (.func 92) #[] #[p]∧Pt S' p log∧St S' M w':=by
 unfold Ad;have h1:=hl.oneCell;go_enter Tryz.func51,Tryz.ntmps51;repeat' (first|(apply gK ();go_step)|(apply sC ();clear hst;intro bx w hst)|fail)
 refine FI rfl (A3 rfl) ?_;(try simp only [AX,List.drop_zero,List.drop_succ_cons,List.take_succ_cons,List.take_zero,As,Ap])
 change St S (.box _ vl.cells.toList _::M) w at hst
 rw [CD h1] at hst;obtain ⟨S2,hS2,hst,hps⟩:=AC (α:=List Ev) (x:=log) hst (by exact ⟨vl,rfl,hl⟩) rfl;exact ⟨_,rfl,S2,_,hS2,rfl,hps,hst⟩
def dY (log:List Ev) (k:Nat) (vs:List Value):Prop:=∃ e,log[k]? = some e∧vs=[Vj (AE e)]
theorem X0 {S} (hG:Bo S) (log:List Ev) (hm:log.length≤1000) (hok:∀ e∈log,Nv e) (ps:Value) (hs:Pt S ps log):KY Tryz.prog S 92 [ps] log.length (dY log):=by
 intro l MM hY w hst;go_enter Tryz.func92,Tryz.ntmps92;repeat' (first|(apply gK ();go_step)|(with_reducible refine kL ?_;refine An hst (Ae Ab Ak Aa) ?_;rintro v ⟨hvl,hv1⟩<;>(try refine nY ?_))|apply sY ()|fail)
 go_loopw [7] (fun v wr=>∃ k,k≤log.length∧v=.int .i64 ((k:Nat):Int)∧St S (MM k) wr) (fun v _=>log.length - (intOf v).toNat)
 case atStart=>exact ⟨0,Nat.zero_le _,rfl,hst⟩
 case round =>
  clear hst;obtain ⟨k,hk,rfl,hst⟩:=hrel;by_cases hlt:k < log.length
  ·have hek:=hok log[k] (List.getElem_mem hlt);obtain ⟨he1,he2,he3⟩:=hek;repeat' ((apply Z3 ());first|(with_reducible refine kS ?_;refine Jm hst rfl BoxIn.h Ab Ak Aa rfl rfl ?_;clear hst;intro w hst<;>(try refine nY ?_)<;>(try replace hst:=nH hst))|(apply gK ();go_step)|(with_reducible refine kL ?_;refine An hst (Av Ab Ak Aa) ?_;rintro v ⟨cl,rfl,hcl⟩<;>(try refine nY ?_))|(apply sJ ();intro v hp)|(apply sZ ();clear hst;intro bk w hst)|fail)
   refine (wpIn_wide (n:=0)).1 (wpIn_region_lit (No 3 (.inl rfl) ?_ rfl ?_))
   ·rintro ⟨a,w,⟨v,hv⟩,_⟩;cases hv
   ·simp only [List.take_succ_cons,List.take_zero,List.drop_succ_cons,List.drop_zero];repeat' (first|(apply gK ();go_step)|(with_reducible refine kL ?_;with_unfolding_all refine Ag hst (FC (x0:=log[k]) rfl BoxIn.h hcl Aa) ?_<;>(try refine nY ?_))|(apply kc ();refine sc (Vh _ hst hG cl log[k] hcl he1 he2 he3) ?_;clear hst;rintro v w ⟨rfl,hst⟩)|fail)
    replace hst:=hst.drop;refine Pu rfl rfl (hY k hlt _ ⟨log[k],List.getElem?_eq_getElem hlt,rfl⟩ _ hst) ?_;clear hst;intro w hst;refine nY ?_;refine EE (.inl rfl) ?_ rfl ?_
    ·rintro ⟨a,w,⟨v,hv⟩,_⟩;cases hv
    ·repeat' (first|(apply gK ();go_step)|fail)
     go_roundw
     case rel=>exact ⟨k+1,by omega,by go_num,hst⟩
     case measure=>simp [intOf];omega
  ·obtain rfl:k=log.length:=by omega
   repeat' (first|(apply gK ();go_step)|fail)
   go_end0
   exact ⟨⟨_,rfl⟩,hst⟩
theorem M4 {α:Type} [Rep α] {S:Ac} {v:Value} {xs:List α} (h:RSl S v xs) (x:α) (hx:x∈xs):∃ cs,Rep.R S cs x:=by
 obtain ⟨i,hi,rfl⟩:=List.mem_iff_getElem.1 hx;rcases h with ⟨ad,cap,_,h,_⟩|⟨b,o,cap,c,T,fz,_,_,_,_,h⟩
 ·subst h;simp at hi
 ·exact ⟨_,h.at_ i hi⟩
theorem SU (m:Dg) (log:List Ev) {k:Nat} {e:Ev} (h:log[k]? = some e):EF m (log.take (k+1))=Gm (EF m (log.take k)) (AE e):=by
 obtain ⟨hk,rfl⟩:=List.getElem?_eq_some_iff.1 h;rw [List.take_succ_eq_append_getElem hk,EF,List.foldl_append];rfl
theorem eA {S M} (w:World) (hst:St S M w) (hG:Bo S) (m:Dg) (hm:m.l.length=16) (vl:Value) (log:List Ev) (hl:RSl S vl log) (hlen:log.length≤1000) (hok:∀ e∈log,Nv e) :
  Ad Tryz.prog 20 [Cu m,vl] w fun v w'=>v=K9 (EF m log)∧St S M w':=by
 unfold Ad;have hl1:=hl.oneCell
 haveI:LenIs m.l 16:=⟨hm⟩
 refine FZ Tryz.func20 rfl ?_;simp only [Tryz.ntmps20,List.size_toArray,List.length_cons,List.length_nil,Nat.reduceAdd,Nat.reduceSub,Array.replicate_succ,Array.replicate_zero,List.push_toArray,List.append_toArray,List.nil_append,List.cons_append];repeat' (first|(apply gK ();go_step)|(apply kc ();refine sc (QN _ hst hG m hm) ?_;clear hst;rintro v w ⟨rfl,hst⟩)|(with_reducible refine kL ?_;refine Ag hst (by exact Jt Ab BoxIn.h Aa Aa) ?_<;>(try refine nY ?_))|(apply sC ();clear hst;intro bx w hst)|(apply sZ ();clear hst;intro bk w hst)|fail)
 refine CN hst rfl BoxIn.h Aa (x0:=FU m) (cs:=Fk (FU m)) Ab (C1 (Ij m)) rfl ?_;clear hst;intro w hst;(try refine nY ?_);(try replace hst:=nH hst);rename Nat=>b5
 repeat' (first|(apply gK ();go_step)|(apply kc ();refine sc (aC _ hst vl log hl) ?_;clear hst;rintro v w ⟨S2,p,hS2,rfl,hps,hst⟩)|fail)
 have hG2:=hG.mono hS2;have hfs:∀ k,Er (EF m (log.take k)):=fun k=>PB m _
 have hhd:∀ e∈log,Fo (AE e):=fun e he=>by
  obtain ⟨cs,hR⟩:=M4 hl e he;exact LH hR (hok e he)
 refine WO (I:=fun k=>[.box b5 (Fk (EF m (log.take k))) 50]) (M0:=_) hst rfl Aa (X0 hG2 log hlen hok p hps) Aa ?_ (by simp) (by simp) (by decide) ?_ ?_
 ·rintro k vs ⟨e,he,rfl⟩;have hr:Rep.R S (F6 (AE e)) (AE e):=CS (hhd e (List.mem_of_getElem? he));exact ⟨F6 (AE e),rfl,Rep.len hr,List.all_eq_true.2 (Rep.one hr)⟩
 ·clear hst;rintro r k b cs C w hk ⟨e,he,hvc⟩ hst
  have hcs:cs=F6 (AE e):=by
   have:=(List.cons.inj hvc).1
   simpa using this
  subst hcs;have hhe:=hhd e (List.mem_of_getElem? he);have hsu:=Lib.hid (SU m log he);have hfk:=hfs k;have hfk1:=hfs (k+1);rw [hsu.out] at hfk1;simp only [List.cons_append,List.nil_append] at hst;generalize EF m (log.take k)=F at *;generalize AE e=E at *;have hrF:Rep.R S2 (Fk F) F:=C1 hfk;have hrE:Rep.R S2 (F6 E) E:=CS hhe;(try refine nY ?_);refine wpIn_block (E7 (.inr ⟨r,rfl⟩) ?_ rfl ?_)
  ·rintro ⟨a,w,h,_⟩;cases h
  ·repeat' (first|(with_reducible refine kL ?_;with_unfolding_all refine Ag hst (by first|exact FC (x0:=F) rfl BoxIn.h hrF Aa|exact FC (x0:=E) rfl BoxIn.h hrE Aa) ?_<;>(try refine nY ?_))|(apply kc ();refine sc (PE _ hst hG2 F hfk E hhe) ?_;clear hst;rintro v w ⟨rfl,hst⟩)|fail)
   refine CN hst rfl BoxIn.h Aa (x0:=Gm F E) (cs:=Fk (Gm F E)) Ab (C1 hfk1) (Rep.len hrF) ?_;clear hst;intro w hst;(try refine nY ?_);(try replace hst:=nH hst);repeat' (first|(apply gK ();go_step)|fail)
   refine ⟨trivial,?_⟩;simp only [List.cons_append,List.nil_append];rw [hsu.out];exact hst.drop
 ·clear hst;intro d w hst;simp only [List.cons_append,List.nil_append] at hst;rw [List.take_length] at hst;have hfa:=PB m log;have hrA:Rep.R S2 (Fk (EF m log)) (EF m log):=C1 hfa;repeat' (first|(apply gK ();go_step)|(with_reducible refine kL ?_;with_unfolding_all refine Ag hst (FC (x0:=EF m log) rfl BoxIn.h hrA Aa) ?_<;>(try refine nY ?_))|fail)
  refine CN hst rfl BoxIn.h Aa (x0:=EF m log) (cs:=Fk (EF m log)) Ab hrA rfl ?_;clear hst;intro w hst;(try refine nY ?_);(try replace hst:=nH hst);repeat' (first|(apply gK ();go_step)|fail)
  refine Im hst rfl (fun w' hst'=>i6 hst' rfl BoxIn.h Aa hrA) fun w' hst'=>⟨_,rfl,rfl,St.weaken hS2 hst'.drop.drop.drop⟩
theorem Qm (lf:Int→Int→Dg) {xs:List Int} {k:Nat} (h:k < xs.length) (h2:k < (Dj lf xs).length):(Dj lf xs)[k]=lf (k:Int) xs[k]:=by
 simp only [Dj,List.getElem_map,List.getElem_range];rw [List.getD_eq_getElem?_getD,List.getElem?_eq_getElem h];rfl
theorem Ql (lf:Int→Int→Dg) {xs:List Int} {i:Nat} (h:i < xs.length):((List.range (i+1)).map fun (j:Nat)=>lf (j:Int) (xs.getD j 0))=((List.range i).map fun (j:Nat)=>lf (j:Int) (xs.getD j 0))++[lf (i:Int) xs[i]]:=by
 rw [List.range_succ,List.map_append];simp only [List.map_cons,List.map_nil];rw [List.getD_eq_getElem?_getD,List.getElem?_eq_getElem h];rfl
abbrev Pn:=Int×Int×Int×List Dg×Unit
abbrev Br:=Dg×List Hd×List Pn×Unit
abbrev GO (e:Ev):List Dg:=Dj BK e.2.2.1
def Fs (log:List Ev):List (Int×Int)→List (Int×Int)→Option (List Pn)
 | _,[]=>some []
 | bf,r::rs=>if r∈bf∨r.1 < 0∨log.length≤r.1 then none else
  match log[r.1.toNat]? with
  | none=>none
  | some e=>if r.2 < 0∨e.2.2.1.length≤r.2 then none else
   match Fs log (r::bf) rs with
   | none=>none
   | some ps=>some ((r.1,r.2,e.2.2.1.getD r.2.toNat 0,Be (GO e) r.2.toNat,())::ps)
def CJ (hs:List Hd):List (Int×Int)→List Pn→Nat
 | _,[]=>0
 | bf,p::ps=>if (p.1,p.2.1)∈bf∨p.1 < 0∨hs.length≤p.1∨p.2.2.1 < 0∨3 < p.2.2.1 then 1 else
  match hs[p.1.toNat]? with
  | none=>1
  | some h=>if p.2.1 < 0∨h.2.2.1≤p.2.1 then 1 else
   if B7 h.2.2.2.1 h.2.2.1.toNat p.2.1.toNat (BK p.2.1 p.2.2.1) p.2.2.2.1 then CJ hs ((p.1,p.2.1)::bf) ps else 16
def Dn (m:Dg) (hs:List Hd):Rg:=hs.foldl Gm (FU m)
theorem W9 (m:Dg) (log:List Ev):Dn m (log.map AE)=EF m log:=by
 unfold Dn EF;rw [List.foldl_map]
theorem Xm {e:Ev} {k:Int} (h0:0≤k) (h1:k < e.2.2.1.length):B7 (AE e).2.2.2.1 (AE e).2.2.1.toNat k.toNat (BK k (e.2.2.1.getD k.toNat 0)) (Be (GO e) k.toNat)=true:=by
 obtain ⟨n,rfl⟩:=Int.eq_ofNat_of_zero_le h0;have hn:n < e.2.2.1.length:=by omega
 have hl:(GO e).length=e.2.2.1.length:=IQ _ _;have:=L0 (l:=GO e) (i:=n) (by omega);rw [Qm BK hn (by rw [IQ];exact hn),hl] at this;rw [Int.toNat_natCast,List.getD_eq_getElem?_getD,List.getElem?_eq_getElem hn];exact this
theorem YQ {log:List Ev} (hv:∀ e∈log,∀ t∈e.2.2.1,(0:Int)≤t∧t≤3):∀ (rs bf:List (Int×Int)) (ps:List Pn),Fs log bf rs=some ps→CJ (log.map AE) bf ps=0
 | [],bf,ps,h=>by
  simp only [Fs,Option.some.injEq] at h;subst h;rfl
 | r::rs,bf,ps,h=>by
  simp only [Fs] at h;split at h
  ·cases h
  ·rename_i hc;split at h
   ·cases h
   ·rename_i e he;split at h
    ·cases h
    ·rename_i hk;split at h
     ·cases h
     ·rename_i qs hq;simp only [Option.some.injEq] at h;subst h;have hem:e∈log:=List.mem_of_getElem? he;have hkl:r.2.toNat < e.2.2.1.length:=by omega
      have ht:=hv e hem (e.2.2.1.getD r.2.toNat 0) (by
       rw [List.getD_eq_getElem?_getD,List.getElem?_eq_getElem hkl];exact List.getElem_mem hkl)
      simp only [CJ,List.length_map,List.getElem?_map,he,Option.map_some];obtain ⟨c1,c2⟩:=not_or.1 hc;rw [if_neg (by rintro (h|h);exact c1 h;omega)];have hc2:(AE e).2.2.1=(e.2.2.1.length:Int):=rfl;simp only [hc2];rw [if_neg (by omega)];have hp:=Xm (e:=e) (k:=r.2) (by omega) (by omega);rw [hc2] at hp;rw [if_pos hp];exact YQ hv rs _ _ hq
end Go.Proofs.YtmmbidoldegemaaGreatDoor
