/- Proved: the law MergeMatchesSpec of package disclose returns true at every argument (Merge and Redact answer as the reference's). Conditions: none beyond those that the given statement itself has. -/
import Derived.Test.YtmmbidoldegemaaGreatDoorCards
import Derived.Test.YtmmbidoldegemaaGreatDoorTie
import Derived.Deep.DeepHandedRow
import Derived.Lib.LaidTab
import Derived.Stop.LaidErr
import Derived.Test.YtmmbidoldegemaaGreatDoorZ49
set_option linter.unusedSimpArgs false
set_option linter.unusedVariables false
set_option maxRecDepth 8000
set_option maxHeartbeats 8000000
namespace Go.Proofs.YtmmbidoldegemaaGreatDoor
open Go.ChangeAt Go.ChangeShapes Go.RowKit Go.Sl Go.WideShapes
instance qK:Opens Tryz.prog 3 Int:=UT kr
instance qM:Opens Tryz.prog 5 UInt8:=Xu kr
instance qL:Opens Tryz.prog 23 Dg:=Lc (fW) kr kr
instance oA:Opens Tryz.prog 61 (List Dg):=G8 (iW) (iR) (by decide)
theorem own:ownKnob Tryz.prog.godebug=none:=by kernel_rfl
theorem bP {α:Type} [Siz α] {xs:List α} (h:∀ x∈xs,1≤Siz.siz x):xs.length≤(xs.map Siz.siz).sum:=by
 induction xs with
 | nil=>simp
 | cons a l ih =>
  have:=ih fun x hx=>h x (.tail _ hx)
  have:=h a (.head _);simp only [List.length_cons,List.map_cons,List.sum_cons];omega
set_option maxRecDepth 20000 in
theorem dw {α:Type} [Rep α] [Siz α] {T E:TypeId} [Opens Tryz.prog T (List α)] (hT:Tryz.prog.underlying T=some (.slice E)) {H:Type} {enc:TypeId×Value→H} {W:World} {base:Nat} {v:Value} {d:DataW H} {p:List MemPlace} (hv:Value.okWide Tryz.prog W .any base T v) (h:DataW.Trod enc Tryz.prog W 0 (fun _=>true) true T v d p) :
  ∃ xs:List α,RSl (Da W) v xs∧(xs.map Siz.siz).sum+1≤Rows.uptoBulk d:=by
 obtain ⟨a,n,c,rfl⟩:=okWide_slice hT hv;obtain ⟨y,⟨v',e,hy⟩,hs⟩:=O5 (α:=List α) h;obtain rfl:v'=.slice a n c:=by simpa [Value.cells] using e.symm
 exact ⟨y,hy,hs⟩
theorem bO:∀ ws:List UInt32,(List.map (fun z=>Value.int .u32 z) (ws.map fun x=>(x.toNat:Int)))=cF Cs ws
 | []=>rfl
 | a::l=>by
  show _::_=_::cF Cs l;rw [← bO l]
theorem NY {W:World} {name:String} {g:Nat} {n:Nat} {ws:List UInt32} (hg:Tryz.prog.globalNamed name=some g) (hn:ws.length=n)
  (h:Lib.TabIs Tryz.prog W name .u32 (ws.map fun x=>(x.toNat:Int))):Pt (Da W) (.pointer (some ⟨g,0,none⟩)) (⟨ws⟩:Ge UInt32 n):=by
 unfold Lib.TabIs World.var? at h;rw [hg] at h;simp only [Option.bind_some] at h;split at h
 ·rename_i cs T fz hc;obtain rfl:=Option.some.inj h;refine ⟨g,0,_,T,fz,rfl,hc,?_⟩;have hz:Rep.z (Ge UInt32 n)=n:=by show n * 1=n;omega
  rw [hz,List.drop_zero,List.take_of_length_le (by simp only [List.length_map];omega)];rw [bO];refine ⟨hn,by rw [JI];show ws.length=ws.length * 1;omega,fun j x hx=>?_⟩;have hj:j < ws.length:=(List.getElem?_eq_some_iff.1 hx).1;have hz2:Rep.z UInt32=1:=rfl;rw [hz2,Nat.mul_one,Hf ws j hj,List.getD_eq_getElem?_getD,hx];rfl
 ·cases h
theorem T9:Rows.laid_bootchain_sha_start (H:=Unit)=Lib.tabData .u32 (FH.l.map fun x=>(x.toNat:Int)):=by rfl
theorem Yl:Rows.laid_bootchain_sha_constants (H:=Unit)=Lib.tabData .u32 (He.map fun x=>(x.toNat:Int)):=by rfl
theorem aE {W:World} (h:laidMetH Tryz.prog [("bootchain/sha.constants",Rows.laid_bootchain_sha_constants),("bootchain/sha.start",Rows.laid_bootchain_sha_start)] W):Bo (Da W):=by
 rw [T9,Yl] at h;have h1:laidMet Tryz.prog [("bootchain/sha.constants",Lib.tabData .u32 (He.map fun x=>(x.toNat:Int))),("bootchain/sha.start",Lib.tabData .u32 (FH.l.map fun x=>(x.toNat:Int)))] W:=h
 exact ⟨NY kr rfl (Lib.tabIs_of_head (g:=0) (t:=220) (e:=38) (n:=8) kr kr kr kr kr kr (Go.laidMet.tail h1)),
  NY kr rfl (Lib.tabIs_of_head (g:=1) (t:=228) (e:=38) (n:=64) kr kr kr kr kr kr h1)⟩
def Pj (cs:List Value):Obj→Obj
 | .cells _ t frozen=>.cells cs.toArray t frozen
 | o=>o
noncomputable def Kk (os:Os) (is:Array Value):World :=
 { World.holding Tryz.prog os ⟨#[],is,[]⟩ with heap:=((World.holding Tryz.prog os ⟨#[],is,[]⟩).heap.modify 0 (Pj (cF Cs FH.l))).modify 1 (Pj (cF Cs He)) }
instance oz:Opens Tryz.prog 59 Hd:=H5 Tryz.underlying59 kr
 (BX rfl kr (ob:=BX rfl kr (ob:=BX rfl kr (ob:=BX rfl kr (ob:=BX rfl kr (ob:=BX rfl kr (ob:=JB)))))))
theorem Su {P:Program} {α:Type} [Rep α] [Siz α] {T E:TypeId} (hT:ArrT P T 2 E) (hz:P.cellsOf E=Rep.z α) (hz':P.cellsOf T=2 * Rep.z α) [o:Opens P E α]:Opens P T (α×α):=⟨fun hx=>by
 haveI:=Lc hT hz hz'
 obtain ⟨y,⟨hl,hR⟩,hs⟩:=Opens.opens (α:=Ge α 2) hx;obtain ⟨l⟩:=y
 match l,hl with
 | [a,b],_ =>
  have h0:=hR.2 0 a rfl;have h1:=hR.2 1 b rfl;have hn:=hR.1;simp only [List.length_cons,List.length_nil,Nat.zero_add,Nat.reduceAdd] at hn;rw [Nat.zero_mul,List.drop_zero] at h0;rw [Nat.one_mul,List.take_of_length_le (by rw [List.length_drop];omega)] at h1;refine ⟨(a,b),⟨by omega,h0,h1⟩,?_⟩;have e:Siz.siz (⟨[a,b]⟩:Ge α 2)=Siz.siz a+(Siz.siz b+0):=rfl;rw [e] at hs;show Siz.siz a+Siz.siz b≤_;omega⟩
instance ox:Opens Tryz.prog 57 (Int×Int):=Su inferInstance kr kr
instance mm:Opens Tryz.prog 28 (List (Int×Int)):=G8 (iX) (iQ) (by decide)
instance mo:Opens Tryz.prog 24 (List Hd):=G8 (iZ) (iP) (by decide)
instance oy:Opens Tryz.prog 63 Pn:=H5 Tryz.underlying63 kr
 (BX rfl kr (ob:=BX rfl kr (ob:=BX rfl kr (ob:=BX rfl kr (ob:=JB)))))
instance mn:Opens Tryz.prog 25 (List Pn):=G8 (iY) (iO) (by decide)
instance mp:Opens Tryz.prog 27 Br:=H5 Tryz.underlying27 kr
 (BX rfl kr (ob:=BX rfl kr (ob:=BX rfl kr (ob:=JB))))
set_option maxRecDepth 20000 in
theorem Xv {H:Type} {enc:TypeId×Value→H} {W:World} {base:Nat} {v:Value} {d:DataW H} {p:List MemPlace} (hv:Value.okWide Tryz.prog W .any base 28 v) (h:DataW.Trod enc Tryz.prog W 0 (fun _=>true) true 28 v d p) (hk:Rows.uptoBulk d≤1048576) :
  ∃ xs:List (Int×Int),RSl (Da W) v xs∧xs.length≤1048576:=by
 obtain ⟨xs,hx,hs⟩:=dw (α:=Int×Int) Tryz.underlying28 hv h;have:=bP (xs:=xs) fun x _=>(show 1≤1+1 by omega)
 exact ⟨xs,hx,by omega⟩
set_option maxRecDepth 20000 in
theorem O4 {H:Type} {enc:TypeId×Value→H} {W:World} {base:Nat} {v:Value} {d:DataW H} {p:List MemPlace} (hv:Value.okWide Tryz.prog W .any base 27 v) (h:DataW.Trod enc Tryz.prog W 0 (fun _=>true) true 27 v d p) :
  ∃ (cs:List Value) (e:Br),v=.agg cs.toArray∧Rep.R (Da W) cs e:=by
 obtain ⟨cs,rfl,_⟩:=okWide_struct Tryz.underlying27 hv;obtain ⟨y,hy,_⟩:=O5 (α:=Br) h;exact ⟨cs.toList,y,by simp,hy⟩
set_option maxRecDepth 20000 in
theorem VB (H:Type) (enc:TypeId×Value→H) (W:World) (base:Nat) (args:Array Value) (ds gs:List (DataW H)) (before:List MemPlace)
  (hval:∀ (j:Nat) t v,Tryz.f3.params[j]? = some t→args[j]? = some v→Value.okWide Tryz.prog W .any base t v)
  (hW:DataW.Whole enc Tryz.prog Tryz.f3.params.toList Rows.discloseMergeMatchesSpecSpec.vars false W args.toList ds gs before) (hk:Rows.uptoSmall H (ds++gs)=true) (hL:laidMetH Tryz.prog Rows.discloseMergeMatchesSpecUptoRow.laid W) :
  Calls Tryz.prog 3 args W fun e W'=>∃ v,e=.returned v∧Rows.discloseMergeMatchesSpecSpec.post enc Tryz.prog Tryz.f3 false true false false W args v W':=by
 have hW':=hW;obtain ⟨p,q,hA0,hV,rfl,hfz,hnd⟩:=hW;have hA:DataW.TrodAll enc Tryz.prog W 0 (fun _=>true) true Tryz.f3.params.toList args.toList ds p:=hA0;have hk:=Ud hk;rw [Tryz.params3] at hA hval;obtain ⟨v0,vs0,d0,ds0,p0,q0,hargs,rfl,rfl,h0,r0⟩:=trodAll_cons hA;obtain ⟨v1,vs1,d1,ds1,p1,q1,rfl,rfl,rfl,h1,r1⟩:=trodAll_cons r0;obtain ⟨v2,vs2,d2,ds2,p2,q2,rfl,rfl,rfl,h2,r2⟩:=trodAll_cons r1;obtain ⟨rfl,rfl,rfl⟩:=trodAll_nil r2;obtain rfl:args = #[v0,v1,v2]:=by cases args;simp_all
 obtain ⟨rfl,rfl⟩:=trodVars_none hV;simp only [List.append_nil,Rows.uptoBulkAll] at hk;obtain ⟨c0,e0,rfl,hR0⟩:=O4 (hval 0 27 v0 rfl rfl) h0;obtain ⟨c1,e1,rfl,hR1⟩:=O4 (hval 1 27 v1 rfl rfl) h1;obtain ⟨l2,hl2,hm2⟩:=Xv (hval 2 28 v2 rfl rfl) h2 (by omega);refine Calls.mono (eH W (St.start W) (aE hL) c0 e0 hR0 c1 e1 hR1 v2 l2 hl2 hm2) fun e W' ⟨v,he,hv,hst⟩=>?_
 subst hv;exact ⟨_,he,XJ (tb:=4) rfl hW' kr (by rw [Tryz.params3];intro t ht';have e:t=27∨t=28:=(by simpa using ht');rcases e with rfl|rfl<;>exact ⟨by kernel_rfl,of_decide_eq_true kr⟩) kr kr rfl rfl rfl hst.below⟩
abbrev ID:Array Value:=#[.agg #[.int .u8 0,.int .u8 0,.int .u8 0,.int .u8 0,.int .u8 0,.int .u8 0,.int .u8 0,.int .u8 0,.int .u8 0,.int .u8 0,.int .u8 0,.int .u8 0,.int .u8 0,.int .u8 0,.int .u8 0,.int .u8 0,.slice none 0 0,.slice none 0 0],.agg #[.int .u8 0,.int .u8 0,.int .u8 0,.int .u8 0,.int .u8 0,.int .u8 0,.int .u8 0,.int .u8 0,.int .u8 0,.int .u8 0,.int .u8 0,.int .u8 0,.int .u8 0,.int .u8 0,.int .u8 0,.int .u8 0,.slice none 0 0,.slice none 0 0],.slice none 0 0]
theorem Yf (os:Os):laidMet Tryz.prog Rows.discloseMergeMatchesSpecUptoRow.laid ((Kk os #[]).forCall (fun _ _=>0) ⟨#[],ID,[]⟩).memory :=
 laidMet_of_run' 8 kr kr
theorem SZ (os:Os) {H:Type} (enc:TypeId×Value→H):∃ places,DataW.whole enc Tryz.prog ((Kk os #[]).forCall (fun _ _=>0) ⟨#[],ID,[]⟩).memory Tryz.f3.params.toList Rows.discloseMergeMatchesSpecSpec.vars false ID.toList 8=some ([.agg [.agg [.lit (.int .u8 0),.lit (.int .u8 0),.lit (.int .u8 0),.lit (.int .u8 0),.lit (.int .u8 0),.lit (.int .u8 0),.lit (.int .u8 0),.lit (.int .u8 0),.lit (.int .u8 0),.lit (.int .u8 0),.lit (.int .u8 0),.lit (.int .u8 0),.lit (.int .u8 0),.lit (.int .u8 0),.lit (.int .u8 0),.lit (.int .u8 0)],.nil,.nil],.agg [.agg [.lit (.int .u8 0),.lit (.int .u8 0),.lit (.int .u8 0),.lit (.int .u8 0),.lit (.int .u8 0),.lit (.int .u8 0),.lit (.int .u8 0),.lit (.int .u8 0),.lit (.int .u8 0),.lit (.int .u8 0),.lit (.int .u8 0),.lit (.int .u8 0),.lit (.int .u8 0),.lit (.int .u8 0),.lit (.int .u8 0),.lit (.int .u8 0)],.nil,.nil],.nil],[],places) :=
 ⟨[],by kernel_rfl⟩
set_option maxRecDepth 100000 in
theorem Qv (os:Os) (started:os.Started) (H:Type) (enc:TypeId×Value→H) (F:Stop.Interp) :
  ReturnsInHanded {} Tryz.checked os 3 .any ((Rows.OpenSpec.upto Rows.discloseMergeMatchesSpecSpec).preRow enc Tryz.prog Tryz.f3 Rows.discloseMergeMatchesSpecUptoRow.domain false Rows.discloseMergeMatchesSpecUptoRow.laid) (((Rows.OpenSpec.upto Rows.discloseMergeMatchesSpecSpec).at F).post enc Tryz.prog Tryz.f3 false true false false):=by
 obtain ⟨places,hx⟩:=SZ os enc
 refine returnsInHanded_of_row (C:=Tryz.checked) (s:=Rows.OpenSpec.upto Rows.discloseMergeMatchesSpecSpec) own started kr Tryz.func3
  (witness_row_at (enc:=enc) (C:=Tryz.checked) false (Kk os #[]) ID rfl kr kr kr (OpenSpec.preRow_of_cond 8 hx kr (fun k hk=>by cases hk;kernel_rfl) kr (Yf os))) ?_
 intro W base args ds gs before hval hW _ hc _ hL _ _;exact VB H enc W base args ds gs before hval hW (hc _ rfl) hL
theorem VA:Rows.DiscloseMergeMatchesSpecUptoSaid :=
 OpenClaim.holds_of_cond 3 Tryz.f3 rfl rfl rfl rfl rfl rfl rfl ⟨rfl,rfl,rfl,rfl,rfl⟩ rfl rfl rfl rfl rfl kr Tryz.func3 kr
  (of_decide_eq_true kr) (by unfold Func.isWrapper;first|(rw [if_pos (by decide +kernel)];kernel_rfl)|(rw [if_neg (by decide +kernel)];exact ⟨rfl,rfl⟩))
  (fun os started H enc _ F=>by rw [OpenClaim.pre_eq_preRow];exact Qv os started H enc F)
theorem Ta (f:FuncId) (fn:Func) (hf:Tryz.pinned.checked.prog.funcNamed "bootchain/bootchainlaw22.DiscloseMergeMatchesSpec" = some f) (hfn:Tryz.pinned.checked.prog.funcs[f]? = some fn) :
  false=Tryz.pinned.checked.prog.looks []∧∀ (j:Nat) t,fn.params[j]? = some t→Tryz.pinned.checked.prog.wantsStandIn t=false:=by
 obtain rfl:f=3:=Option.some.inj ((show Tryz.prog.funcNamed "bootchain/bootchainlaw22.DiscloseMergeMatchesSpec" = some 3 by kernel_rfl).symm.trans hf) |>.symm
 obtain rfl:fn=Tryz.f3:=(Option.some.inj (Tryz.func3.symm.trans hfn)).symm;refine ⟨by kernel_rfl,fun j t ht=>?_⟩;rw [Tryz.params3] at ht;have e:t=27∨t=28:=by simpa using Array.mem_of_getElem? ht
 rcases e with rfl|rfl
 ·exact (show Tryz.prog.wantsStandIn 27=false by kernel_rfl)
 ·exact (show Tryz.prog.wantsStandIn 28=false by kernel_rfl)
theorem dmat_proved:Rows.DiscloseMergeMatchesSpecUptoCardSaid :=
 Claim7.holds_tied_plain_at .later [] _ _ _ _ VA (fun _ h=>by cases h) kr (fun _ h=>by cases h) discloseMergeMatchesSpecUpto_row_tie rfl ⟨rfl,rfl⟩ kr rfl Ta kr
end Go.Proofs.YtmmbidoldegemaaGreatDoor
