/- Part 25 of the proof that the law of the last part holds; no conditions. -/
import Derived.Test.YtmmbidoldegemaaGreatDoorZ23
set_option linter.unusedSimpArgs false
set_option linter.unusedVariables false
set_option maxRecDepth 8000
set_option maxHeartbeats 8000000
namespace Go.Proofs.YtmmbidoldegemaaGreatDoor
open Go.RowKit Go.Sl
theorem BT {S:Ac} {cl:List Value} {x:Nd} (h:Rep.R S cl x):∃ so:Sv,cl=[.int .i64 x.1,.int .i64 x.2.1,.string ⟨x.2.2.1.b.toArray⟩,.slice so.1 so.2.1 so.2.2]∧RSl S (Ar so) x.2.2.2.1∧Au x.1∧Au x.2.1∧x.2.2.1.b.length≤maxLen:=by
 obtain ⟨hl,h1,h2⟩:=h;obtain ⟨hl2,h3,h4⟩:=h2;obtain ⟨hl3,h5,h6⟩:=h4;obtain ⟨hl4,h7,h8⟩:=h6;obtain ⟨e1,i1⟩:=h1;obtain ⟨e2,i2⟩:=h3;obtain ⟨e3,i3⟩:=h5;obtain ⟨v,e4,h9⟩:=h7;obtain ⟨a,n,c,rfl⟩:=BO h9;refine ⟨(a,n,c),?_,h9,i1,i2,i3⟩;apply ip ()
theorem BG {ns:List Nd} {k:Nat} (h:k < ns.length):Ax ns (k:Int)=ns[k]:=by
 unfold Ax;rw [Int.toNat_natCast,List.getD_eq_getElem?_getD,List.getElem?_eq_getElem h];rfl
theorem bF {rec:Int→Wk→Wk} {ns:List Nd} {k o c:Int} {os cs:List Int} {w:Wk} (hw:w.2.2=false) (h:¬ (o < 0∨k≤o∨DQ (Ax ns o).1≠c)):BV rec ns k (o::os) (c::cs) w=BV rec ns k os cs (rec o w):=by rw [BV,if_neg (by rw [hw];decide),if_neg h]
theorem Lt {rec:Int→Wk→Wk} {ns:List Nd} {k o c:Int} {os cs:List Int} {w:Wk} (hw:w.2.2=false) (h:o < 0∨k≤o∨DQ (Ax ns o).1≠c):BV rec ns k (o::os) (c::cs) w=((w.1,w.2.1,true),true):=by rw [BV,if_neg (by rw [hw];decide),if_pos h]
abbrev f6 (w:Wk):Value:=.agg #[.int .i64 w.1,.int .i64 w.2.1,.bool w.2.2]
abbrev fX (S:Ac) (M:List Chunk) (r:Wk) (v:Value) (w:World):Prop:=∃ S',S.Le S'∧v=f6 r∧St S' M w
abbrev YC (p:Pg) (f:Nat):Prop:=∀ {S M} (w:World) (si sn:Sv) (k:Nat) (wk:Wk),St S M w→Du S si sn p→k < p.2.1.length→k+1≤f→wk.2.2=false→(0≤wk.1∧wk.1≤1000000)→(0≤wk.2.1∧wk.2.1≤wk.1+(1000000 - (k:Int))) →
  Ad Tryz.prog 108 [CR si sn p,.int .i64 (k:Int),f6 wk] w (fX S M (DY p.2.1 f k wk))
theorem Y7 {rec:Int→Wk→Wk} {ns:List Nd} {k:Int} {os cs:List Int} {w:Wk} (h:w.2.2=true):BV rec ns k os cs w=(w,false):=by
 cases os with
 | nil=>cases cs<;>rfl
 | cons o os=>cases cs with
  | nil=>rfl
  | cons c cs=>rw [BV,if_pos h]
theorem Y6 {rec:Int→Wk→Wk} {ns:List Nd} {k:Int} {cs:List Int} {w:Wk}:BV rec ns k [] cs w=(w,false):=by cases cs<;>rfl
theorem Tv (p:Pg) (f:Nat) (ih:YC p f):YC p (f+1):=fun {S M} w si sn k wk hst hp hk hf hwb hw1 hw2=>by
 unfold Ad;obtain ⟨R,hR⟩:∃ R,DY p.2.1 (f+1) k wk=R:=⟨_,rfl⟩
 rw [hR];rw [DY,BG hk] at hR;obtain ⟨nx,pt,bd⟩:=wk;simp only at hwb hw1 hw2 hR;subst hwb;have hn:=hp.n;have hln:=hp.ln;have hi:=hp.i;have hol:=hp.lo _ (List.getElem_mem hk);have HP:=Lib.hid hp;clear hp;generalize hns:p.2.1=ns at *;obtain ⟨X,hX⟩:∃ X,ns[k]=X:=⟨_,rfl⟩
 rw [hX] at hR hol;have HR:=Lib.hid hR;clear hR;go_enter Tryz.func108,Tryz.ntmps108;repeat' ((apply Z0 ());first|(apply gK ();go_step)|fail)
 refine wp_region_lit ?_;refine Fi (cs:=[.slice si.1 si.2.1 si.2.2,.slice sn.1 sn.2.1 sn.2.2,.int .i64 p.2.2.1,.int .i64 p.2.2.2.1]) hst Ab rfl ?_;clear hst;intro b3 w hst;(try refine nX ?_);refine Fi (cs:=[.int .i64 nx,.int .i64 pt,.bool false]) hst Ab rfl ?_;clear hst;intro b5 w hst;(try refine nX ?_);refine Bv hst Aa ?_;clear hst;intro b6 w hst;(try refine nX ?_);repeat' ((apply Z1 ());first|(apply gK ();go_step)|fail)
 refine wp_region_lit ?_;repeat' (first|(apply gK ();go_step)|apply sX ()|(apply sD ();intro cl hcl)|(apply sI ();intro v hp)|(apply sA ();clear hst;intro bk w hst)|fail)
 obtain ⟨b7,rfl⟩:∃ b,b=bk:=⟨_,rfl⟩
 rw [hX] at hcl;clear hX;obtain ⟨so,rfl,ho,hI1,hI2,hI3⟩:=BT hcl;clear hcl;rw [show Rep.agg Nd=true from rfl];(try refine nX ?_);repeat' ((apply Z2 ());first|(apply gK ();go_step)|(apply sS ();clear hst;intro w hst)|fail)
 have cA:=fun {M:List Chunk} (w:World) (hst:St S M w)=>bh w hst X.1 X.2.2.2.1.length (by omega)
 repeat' ((apply Z3 ());first|(apply gK ();go_step)|(apply kc ();refine sc (cA _ hst) ?_;clear hst;rintro v w ⟨S1,sa,hS1,rfl,ha,hst⟩)|apply sX ()|fail)
 clear cA;have cC:=fun {M:List Chunk} (w:World) (hst:St S1 M w)=>Og w hst X.1
 replace ho:=ho.mono hS1;replace hn:=hn.mono hS1;replace hi:=hi.mono hS1;obtain ⟨z1,hz1⟩:∃ z,(DQ X.1 == 0)=z:=⟨_,rfl⟩
 generalize hW:Fh X.1 X.2.2.2.1.length=W at *;clear hW;obtain ⟨z2,hz2⟩:∃ z,((W.length:Int) != (X.2.2.2.1.length:Int))=z:=⟨_,rfl⟩
 obtain ⟨z3,hz3⟩:∃ z,(X.1 == 12)=z:=⟨_,rfl⟩
 obtain ⟨z4,hz4⟩:∃ z,(X.2.1 != pt)=z:=⟨_,rfl⟩
 have hcond:(DQ X.1=0∨W.length≠X.2.2.2.1.length∨(X.1=12∧X.2.1≠pt))↔(z1 || (z2 || (z3 && z4)))=true:=by
  rw [← hz1,← hz2,← hz3,← hz4];simp only [Bool.or_eq_true,Bool.and_eq_true,beq_iff_eq,bne_iff_ne,ne_eq];constructor
  ·rintro (h|h|h)
   ·exact .inl h
   ·exact .inr (.inl (by omega))
   ·exact .inr (.inr h)
  ·rintro (h|h|h)
   ·exact .inl h
   ·exact .inr (.inl (by omega))
   ·exact .inr (.inr h)
 have h12:(X.1=12)↔z3=true:=by rw [← hz3];simp only [beq_iff_eq]
 simp only [hcond] at HR;simp only [h12] at HR;clear hcond h12;have kz:(z1=true)∨(z1=false∧z2=true)∨(z1=false∧z2=false∧z3=true∧z4=true)∨(z1=false∧z2=false∧z3=true∧z4=false)∨(z1=false∧z2=false∧z3=false):=by cases z1<;>cases z2<;>cases z3<;>cases z4<;>simp
 rcases kz with rfl|⟨rfl,rfl⟩|⟨rfl,rfl,rfl,rfl⟩|⟨rfl,rfl,rfl,rfl⟩|⟨rfl,rfl,rfl⟩
 ·replace HR:=Lib.hid (HR.out.symm.trans (if_pos (by simp)));repeat' (first|go_skip|apply sK ()|(apply gK ();go_step)|(apply kc ();refine sc (cC _ hst) ?_;clear hst;rintro v w ⟨rfl,hst⟩)|apply sX ()|(apply sS ();clear hst;intro w hst)|fail)
  apply gZ ()
 ·replace HR:=Lib.hid (HR.out.symm.trans (if_pos (by simp)));repeat' (first|go_skip|apply sK ()|apply sG ()|(apply gK ();go_step)|(apply kc ();refine sc (cC _ hst) ?_;clear hst;rintro v w ⟨rfl,hst⟩)|apply sX ()|(apply sS ();clear hst;intro w hst)|fail)
  apply gZ ()
 ·replace HR:=Lib.hid (HR.out.symm.trans (if_pos (by simp)));repeat' (first|apply sK ()|apply sG ()|(apply gK ();go_step)|(apply kc ();refine sc (cC _ hst) ?_;clear hst;rintro v w ⟨rfl,hst⟩)|apply sX ()|(apply sS ();clear hst;intro w hst)|fail)
  apply gZ ()
 ·replace HR:=Lib.hid ((if_neg (by simp)).symm.trans HR.out);have hq:(0≤(pt+1)∧(pt+1)≤nx+(1000000 - (k:Int))+1):=by omega
  have hw9:(if true=true then pt+1 else pt)=(pt+1):=by simp
  rw [hw9] at HR;clear hw9;repeat' ((apply Z8 ());first|apply sK ()|apply sG ()|(apply gK ();go_step)|(apply kc ();refine sc (cC _ hst) ?_;clear hst;rintro v w ⟨rfl,hst⟩)|apply sX ()|(apply sS ();clear hst;intro w hst)|fail)
  generalize (pt+1)=q at *;apply b1 ()
 ·replace HR:=Lib.hid ((if_neg (by simp)).symm.trans HR.out);have hq:(0≤pt∧pt≤nx+(1000000 - (k:Int))+1):=by omega
  have hw9:(if false=true then pt+1 else pt)=pt:=by simp
  rw [hw9] at HR;clear hw9;repeat' ((apply Z8 ());first|go_skip|apply sK ()|apply sG ()|(apply gK ();go_step)|(apply kc ();refine sc (cC _ hst) ?_;clear hst;rintro v w ⟨rfl,hst⟩)|apply sX ()|fail)
  generalize hqq:pt=q at *;clear hqq;apply b1 ()
theorem OC (p:Pg):∀ f,YC p f
 | 0=>fun w si sn k wk _ _ _ hf _ _ _=>absurd hf (by omega)
 | f+1=>Tv p f (OC p f)
end Go.Proofs.YtmmbidoldegemaaGreatDoor
