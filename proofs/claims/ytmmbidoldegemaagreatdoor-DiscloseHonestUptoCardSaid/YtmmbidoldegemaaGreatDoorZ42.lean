/- Proved: the law DiscloseHonest of package disclose returns true at every argument (evidence about a boot verifies against its registers, and every outcome that is known is the true one). Conditions: none beyond those that the given statement itself has. -/
import Derived.Test.YtmmbidoldegemaaGreatDoorCards
import Derived.Test.YtmmbidoldegemaaGreatDoorTie
import Derived.Deep.DeepHandedRow
import Derived.Lib.LaidTab
import Derived.Stop.LaidErr
import Derived.Test.YtmmbidoldegemaaGreatDoorZ41
set_option linter.all false
set_option maxRecDepth 8000
set_option maxHeartbeats 8000000
namespace Go.Proofs.YtmmbidoldegemaaGreatDoor
open Go.ChangeAt Go.ChangeShapes Go.RowKit Go.Sl Go.WideShapes Go.Proofs.Tryz
instance tj:Opens prog 5 UInt8:=YT kr
instance qR:Opens prog 65 (List UInt8):=Nl (kZ) (mW) (by decide)
instance ti:Opens prog 23 Dg:=Rq (iZ) kr kr
theorem own:ownKnob prog.godebug=none:=by kernel_rfl
theorem eL {α:Type} [Siz α] {xs:List α} (h:∀ x∈xs,1≤Siz.siz x):xs.length≤(xs.map Siz.siz).sum:=by
 induction xs with
 | nil=>simp
 | cons a l ih =>
  have:=ih fun x hx=>h x (.tail _ hx)
  have:=h a (.head _);simp only [List.length_cons,List.map_cons,List.sum_cons];omega
set_option maxRecDepth 20000 in
theorem fG {α:Type} [Z α] [Siz α] {T E} [Opens prog T (List α)] (hT:prog.underlying T=some (.slice E)) {H:Type} {enc:TypeId×Value→H} {W base v d p} (hv:Value.okWide prog W .any base T v) (h:DataW.Trod enc prog W 0 (fun _=>true) true T v d p):
  ∃ xs:List α,RSl (DN W) v xs∧(xs.map Siz.siz).sum+1≤Rows.uptoBulk d:=by
 obtain ⟨a,n,c,rfl⟩:=okWide_slice hT hv;obtain ⟨y,⟨v',e,hy⟩,hs⟩:=Qb (α:=List α) h;obtain rfl:v'=.slice a n c:=by simpa [Value.cells] using e.symm
 exact ⟨y,hy,hs⟩
theorem Qc {P w r base t v n e} (ht:P.underlying t=some (.array n e)) (h:Value.okWide P w r base t v):∃ cs,v=.agg cs:=by
 simp only [Value.okWide,ht] at h;obtain ⟨cs,h1,_⟩:=h;exact ⟨cs,h1⟩
set_option maxRecDepth 20000 in
theorem cL {H:Type} {enc:TypeId×Value→H} {W base v d p} (hv:Value.okWide prog W .any base 23 v) (h:DataW.Trod enc prog W 0 (fun _=>true) true 23 v d p):
  ∃ y:Dg,v=Cu y∧y.l.length=16:=by
 obtain ⟨cs,rfl⟩:=Qc underlying23 hv;obtain ⟨y,hy,_⟩:=Qb (α:=Dg) h;obtain ⟨h1,e⟩:=ZA hy
 have e':cs=(u8s y.l).toArray:=by
  apply Array.ext';exact e
 subst e';exact ⟨y,rfl,h1⟩
theorem eK:∀ ws:List UInt32,(List.map (fun z=>Value.int .u32 z) (ws.map fun x=>(x.toNat:Int)))=cF CH ws
 | []=>rfl
 | a::l=>by
  show _::_=_::cF CH l;rw [← eK l]
theorem OX {W name g n ws} (hg:prog.globalNamed name=some g) (hn:ws.length=n) (h:Lib.TabIs prog W name .u32 (ws.map fun x=>(x.toNat:Int))):Pt (DN W) (.pointer (some ⟨g,0,none⟩)) (⟨ws⟩:H7 UInt32 n):=by
 unfold Lib.TabIs World.var? at h;rw [hg] at h;simp only [Option.bind_some] at h;split at h
 ·rename_i cs T fz hc;obtain rfl:=Option.some.inj h;refine ⟨g,0,_,T,fz,rfl,hc,?_⟩;have hz:Z.z (H7 UInt32 n)=n:=by show n * 1=n;omega
  rw [hz,List.drop_zero,List.take_of_length_le (by simp only [List.length_map];omega)];rw [eK];refine ⟨hn,by rw [Ks];show ws.length=ws.length * 1;omega,fun j x hx=>?_⟩;have hj:j < ws.length:=(List.getElem?_eq_some_iff.1 hx).1;have hz2:Z.z UInt32=1:=rfl;rw [hz2,Nat.mul_one,Im ws j hj,List.getD_eq_getElem?_getD,hx];rfl
 ·cases h
theorem Vh:Rows.laid_bootchain_sha_start (H:=Unit)=Lib.tabData .u32 (Gf.l.map fun x=>(x.toNat:Int)):=by rfl
theorem ZG:Rows.laid_bootchain_sha_constants (H:=Unit)=Lib.tabData .u32 (Il.map fun x=>(x.toNat:Int)):=by rfl
theorem dH {W} (h:laidMetH prog [("bootchain/sha.constants",Rows.laid_bootchain_sha_constants),("bootchain/sha.start",Rows.laid_bootchain_sha_start)] W):Bu (DN W):=by
 rw [Vh,ZG] at h;have h1:laidMet prog [("bootchain/sha.constants",Lib.tabData .u32 (Il.map fun x=>(x.toNat:Int))),("bootchain/sha.start",Lib.tabData .u32 (Gf.l.map fun x=>(x.toNat:Int)))] W:=h
 exact ⟨OX kr rfl (Lib.tabIs_of_head (g:=0) (t:=220) (e:=38) (n:=8) kr kr kr kr kr kr (Go.laidMet.tail h1)),
  OX kr rfl (Lib.tabIs_of_head (g:=1) (t:=228) (e:=38) (n:=64) kr kr kr kr kr kr h1)⟩
def Qn (cs:List Value):Obj→Obj
 | .cells _ t frozen=>.cells cs.toArray t frozen
 | o=>o
noncomputable def K9 (os:Os) (is:Array Value):World :=
 { World.holding prog os ⟨#[],is,[]⟩ with heap:=((World.holding prog os ⟨#[],is,[]⟩).heap.modify 0 (Qn (cF CH Gf.l))).modify 1 (Qn (cF CH Il)) }
instance mZ:Opens prog 9 Cv:=V2 kr
instance qQ:Opens prog 67 Rn:=P9 underlying67 kr
 (L7 rfl kr (ob:=L7 rfl kr (ob:=TN)))
instance oH:Opens prog 37 (List Rn):=Nl (k5) (kN) (by decide)
set_option maxRecDepth 20000 in
theorem YU {H:Type} {enc:TypeId×Value→H} {W base v d p} (hv:Value.okWide prog W .any base 37 v) (h:DataW.Trod enc prog W 0 (fun _=>true) true 37 v d p) (hk:Rows.uptoBulk d≤1048576):
  ∃ xs:List Rn,RSl (DN W) v xs∧xs.length≤1048576:=by
 obtain ⟨xs,hx,hs⟩:=fG (α:=Rn) underlying37 hv h;have:=eL (xs:=xs) fun x _=>(show 1≤x.1.b.length+(((x.2.1).map Siz.siz).sum+1+0) by omega)
 exact ⟨xs,hx,by omega⟩
set_option maxRecDepth 20000 in
theorem Qa {H:Type} {enc:TypeId×Value→H} {W base v d p} (hv:Value.okWide prog W .any base 38 v) (h:DataW.Trod enc prog W 0 (fun _=>true) true 38 v d p):
  ∃ n:UInt32,v=.int .u32 (n.toNat:Int):=by
 obtain ⟨n,rfl,_,_,wf⟩:=open_int underlying38 hv h;have hn:0≤n∧n≤4294967295:=by simpa [Lit.wf,IntKind.min,IntKind.max,IntKind.signed,IntKind.bits,Au] using wf
 refine ⟨UInt32.ofNat n.toNat,?_⟩;rw [UInt32.toNat_ofNat_of_lt' (by show n.toNat < 4294967296;omega),Int.toNat_of_nonneg hn.1]
set_option maxRecDepth 20000 in
theorem vN (H:Type) (enc W base args ds gs before) (hval:∀ (j:Nat) t v,f4.params[j]? = some t→args[j]? = some v→Value.okWide prog W .any base t v) (hW:DataW.Whole enc prog f4.params.toList Rows.discloseHonestSpec.vars false W args.toList ds gs before) (hk:Rows.uptoSmall H (ds++gs)=true) (hL:laidMetH prog Rows.discloseHonestUptoRow.laid W):
  Calls prog 4 args W fun e W'=>∃ v,e=.returned v∧Rows.discloseHonestSpec.post enc prog f4 false true false false W args v W':=by
 have hW':=hW;obtain ⟨p,q,hA0,hV,rfl,hfz,hnd⟩:=hW;have hA:DataW.TrodAll enc prog W 0 (fun _=>true) true f4.params.toList args.toList ds p:=hA0;have hk:=Vk hk;rw [params4] at hA hval;obtain ⟨v0,vs0,d0,ds0,p0,q0,hargs,rfl,rfl,h0,r0⟩:=trodAll_cons hA;obtain ⟨v1,vs1,d1,ds1,p1,q1,rfl,rfl,rfl,h1,r1⟩:=trodAll_cons r0;obtain ⟨v2,vs2,d2,ds2,p2,q2,rfl,rfl,rfl,h2,r2⟩:=trodAll_cons r1;obtain ⟨rfl,rfl,rfl⟩:=trodAll_nil r2;obtain rfl:args = #[v0,v1,v2]:=by cases args;simp_all
 obtain ⟨rfl,rfl⟩:=trodVars_none hV;simp only [List.append_nil,Rows.uptoBulkAll] at hk;obtain ⟨l0,hl0,hm0⟩:=YU (hval 0 37 v0 rfl rfl) h0 (by omega);obtain ⟨d1,rfl,hd1⟩:=cL (hval 1 23 v1 rfl rfl) h1;obtain ⟨n2,rfl⟩:=Qa (hval 2 38 v2 rfl rfl) h2;refine Calls.mono (wd W (St.start W) (dH hL) v0 l0 hl0 hm0 d1 hd1 n2) fun e W' ⟨v,he,hv,V⟩=>?_
 subst hv;exact ⟨_,he,Y8 (tb:=4) rfl hW' kr (by rw [params4];intro t ht';have e:t=37∨t=23∨t=38:=(by simpa using ht');rcases e with rfl|rfl|rfl<;>exact ⟨by kernel_rfl,of_decide_eq_true kr⟩) kr kr rfl rfl rfl V.below⟩
abbrev uA:Array Value:=#[.slice none 0 0,.agg #[.int .u8 0,.int .u8 0,.int .u8 0,.int .u8 0,.int .u8 0,.int .u8 0,.int .u8 0,.int .u8 0,.int .u8 0,.int .u8 0,.int .u8 0,.int .u8 0,.int .u8 0,.int .u8 0,.int .u8 0,.int .u8 0],.int .u32 0]
theorem vR (os):laidMet prog Rows.discloseHonestUptoRow.laid ((K9 os #[]).forCall (fun _ _=>0) ⟨#[],uA,[]⟩).memory :=
 laidMet_of_run' 8 kr kr
theorem vE (os) {H:Type} (enc:TypeId×Value→H):∃ places,DataW.whole enc prog ((K9 os #[]).forCall (fun _ _=>0) ⟨#[],uA,[]⟩).memory f4.params.toList Rows.discloseHonestSpec.vars false uA.toList 8=some ([.nil,.agg [.lit (.int .u8 0),.lit (.int .u8 0),.lit (.int .u8 0),.lit (.int .u8 0),.lit (.int .u8 0),.lit (.int .u8 0),.lit (.int .u8 0),.lit (.int .u8 0),.lit (.int .u8 0),.lit (.int .u8 0),.lit (.int .u8 0),.lit (.int .u8 0),.lit (.int .u8 0),.lit (.int .u8 0),.lit (.int .u8 0),.lit (.int .u8 0)],.lit (.int .u32 0)],[],places) :=
 ⟨[],by kernel_rfl⟩
set_option maxRecDepth 100000 in
theorem vj (os) (started:os.Started) (H:Type) (enc:TypeId×Value→H) (F):
  ReturnsInHanded {} checked os 4 .any ((Rows.OpenSpec.upto Rows.discloseHonestSpec).preRow enc prog f4 Rows.discloseHonestUptoRow.domain false Rows.discloseHonestUptoRow.laid) (((Rows.OpenSpec.upto Rows.discloseHonestSpec).at F).post enc prog f4 false true false false):=by
 obtain ⟨places,hx⟩:=vE os enc
 refine returnsInHanded_of_row (C:=checked) (s:=Rows.OpenSpec.upto Rows.discloseHonestSpec) own started kr func4
  (witness_row_at (enc:=enc) (C:=checked) false (K9 os #[]) uA rfl kr kr kr (OpenSpec.preRow_of_cond 8 hx kr (fun k hk=>by cases hk;kernel_rfl) kr (vR os))) ?_
 intro W base args ds gs before hval hW _ hc _ hL _ _;exact vN H enc W base args ds gs before hval hW (hc _ rfl) hL
theorem vM:Rows.DiscloseHonestUptoSaid :=
 OpenClaim.holds_of_cond 4 f4 rfl rfl rfl rfl rfl rfl rfl ⟨rfl,rfl,rfl,rfl,rfl⟩ rfl rfl rfl rfl rfl kr func4 kr
  (of_decide_eq_true kr) (by unfold Func.isWrapper;first|(rw [if_pos (by decide +kernel)];kernel_rfl)|(rw [if_neg (by decide +kernel)];exact ⟨rfl,rfl⟩))
  (fun os started H enc _ F=>by rw [OpenClaim.pre_eq_preRow];exact vj os started H enc F)
theorem vF (f fn) (hf:Tryz.pinned.checked.prog.funcNamed "bootchain/bootchainlaw22.DiscloseHonest" = some f) (hfn:Tryz.pinned.checked.prog.funcs[f]? = some fn):
  false=Tryz.pinned.checked.prog.looks []∧∀ (j:Nat) t,fn.params[j]? = some t→Tryz.pinned.checked.prog.wantsStandIn t=false:=by
 obtain rfl:f=4:=Option.some.inj ((show prog.funcNamed "bootchain/bootchainlaw22.DiscloseHonest" = some 4 by kernel_rfl).symm.trans hf) |>.symm
 obtain rfl:fn=f4:=(Option.some.inj (func4.symm.trans hfn)).symm;refine ⟨by kernel_rfl,fun j t ht=>?_⟩;rw [params4] at ht;have e:t=37∨t=23∨t=38:=by simpa using Array.mem_of_getElem? ht
 rcases e with rfl|rfl|rfl
 ·exact (show prog.wantsStandIn 37=false by kernel_rfl)
 ·exact (show prog.wantsStandIn 23=false by kernel_rfl)
 ·exact (show prog.wantsStandIn 38=false by kernel_rfl)
theorem dhon_proved:Rows.DiscloseHonestUptoCardSaid :=
 Claim7.holds_tied_plain_at .later [] _ _ _ _ vM (fun _ h=>by cases h) kr (fun _ h=>by cases h) discloseHonestUpto_row_tie rfl ⟨rfl,rfl⟩ kr rfl vF kr
end Go.Proofs.YtmmbidoldegemaaGreatDoor
