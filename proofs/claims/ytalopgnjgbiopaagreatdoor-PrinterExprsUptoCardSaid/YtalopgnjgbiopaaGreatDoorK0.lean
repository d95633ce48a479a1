/- What the cards of this seat share: the listed tables. -/
import Derived.Test.YtalopgnjgbiopaaGreatDoorCards
import Derived.Test.YtalopgnjgbiopaaGreatDoorTie
import Derived.ProofKit
import Derived.OpenShut
import Derived.Deep.DeepHandedRow
import Derived.Lib.LaidTab
import Derived.ShutString
import Derived.ChangeOld
import Derived.ChangeMaps5
import Derived.Test.YtalopgnjgbiopaaGreatDoorYZ
import Derived.Test.YtalopgnjgbiopaaGreatDoorPY
import Derived.Test.YtalopgnjgbiopaaGreatDoorR3
namespace Go.Proofs.YtalopgnjgbiopaaGreatDoor
open Go.ChangeShapes Go.WideShapes Go.ChangeAt Go.RowKit
def Xk:DataW Unit→List Value
  | .agg l=>l.map fun
    | .lit (.int k z)=>.int k z
    | _=>.bool false
  | _=>[]
theorem own:ownKnob Tryz.prog.godebug=none:=by kernel_rfl
theorem KU:laidOutB Tryz.prog=true:=by kernel_rfl
def KT:List (String × DataW Unit):=[("math/bits.deBruijn32tab",Rows.laid_math_bits_deBruijn32tab),("math/bits.deBruijn64tab",Rows.laid_math_bits_deBruijn64tab),("internal/strconv.uint64pow10",Rows.laid_internal_strconv_uint64pow10)]
theorem Xm {P:Program} {W:World} {n1 n2 name:String} {d1 d2:DataW Unit} {k:IntKind} {zs:List Int} {g:Nat} {t e:TypeId} {n:Nat}
    (hg:P.globalNamed name=some g) (hty:(P.globals[g]?).map (·.type)=some t) (ht:P.underlying t=some (.array n e)) (he:P.underlying e=some (.int k)) (hce:P.cellsOf e=1) (hct:P.cellsOf t=n)
    (h:laidMet P [(n1,d1),(n2,d2),(name,Lib.tabData k zs)] W):Lib.TabIs P W name k zs:=by
  obtain ⟨ps,⟨_,_,_,_,_,_,_,_,_,_,⟨_,_,_,_,_,_,_,_,_,_,⟨g',t',cs,fuel,p,q,hg',ht',hvar,hd,_,_⟩,_⟩,_⟩,_⟩:=h;obtain rfl:=Option.some.inj (hg.symm.trans hg');obtain rfl:=Option.some.inj (hty.symm.trans ht');unfold Lib.TabIs;rw [hvar,←Lib.cells_of_tab ht he hce hct hd]
theorem KL:Tryz.prog.globalNamed "internal/strconv.uint64pow10" = some 1:=by kernel_rfl
theorem KM:(Tryz.prog.globals[1]?).map (·.type)=some 182:=by kernel_rfl
theorem Y3:Tryz.prog.cellsOf 182=20:=by kernel_rfl
theorem Y4:Tryz.prog.cellsOf 127=1:=by kernel_rfl
theorem Xl {W:World} (h:laidMetH Tryz.prog KT W):Tab W:=Xm KL KM Tryz.underlying182 Tryz.underlying127 Y4 Y3 h
def KW (cs:List Value):Obj→Obj
  | .cells _ t frozen=>.cells cs.toArray t frozen
  | o=>o
noncomputable def laidWorld (os:Os):World:=
  { World.holding Tryz.prog os ⟨#[],#[],[]⟩ with heap:=(((World.holding Tryz.prog os ⟨#[],#[],[]⟩).heap.modify 1 (KW (Lib.pow10Tab.map fun z=>Value.int .u64 z))).modify 2 (KW (Xk Rows.laid_math_bits_deBruijn32tab))).modify 3 (KW (Xk Rows.laid_math_bits_deBruijn64tab)) }
end Go.Proofs.YtalopgnjgbiopaaGreatDoor
namespace Go.Proofs.YtalopgnjgbiopaaGreatDoor.exprs
open Go.ChangeShapes Go.WideShapes Go.ChangeAt Go.RowKit
open Go.ChangeMaps (open_string shut_string)
set_option linter.unusedVariables false
set_option linter.unusedSimpArgs false
set_option maxRecDepth 100000
set_option maxHeartbeats 1000000 in
theorem Qz (H:Type) (enc:TypeId × Value→H) (W:World) (base:Nat) (args:Array Value) (ds gs:List (DataW H)) (before:List MemPlace)
    (hval0:∀ (j:Nat) t v,Tryz.f4.params[j]?=some t→args[j]?=some v→Value.okWide Tryz.prog W .any base t v)
    (hW:DataW.Whole enc Tryz.prog Tryz.f4.params.toList Rows.printerExprsSpec.vars false W args.toList ds gs before) (hL:laidMetH Tryz.prog Rows.printerExprsUptoRow.laid W) (hS:(DataW.weightsEach Tryz.prog (Tryz.f4.params.toList++(Rows.OpenSpec.upto Rows.printerExprsSpec).bare.plain.varTypes Tryz.prog) (ds++gs)).all (·≤reachBytes)=true) (hk:Rows.uptoSmall H (ds++gs)=true):Calls Tryz.prog 4 args W fun e W'=>∃ v,e=.returned v∧Rows.printerExprsSpec.post enc Tryz.prog Tryz.f4 false true false false W args v W':=by
  have hT:=Xl hL;have hval:∀ (j:Nat) t v,Tryz.f4.params[j]?=some t→args[j]?=some v→Value.okWide Tryz.prog W .any base t v:=hval0;have hW':=hW;obtain ⟨p,q,hA0,hV,rfl,hfz,hnd⟩:=hW;have hA:DataW.TrodAll enc Tryz.prog W 0 (fun _=>true) true Tryz.f4.params.toList args.toList ds p:=hA0;rw [Tryz.params4] at hA hval hS;obtain ⟨v0,vs0,d0,ds0,p0,q0,hargs,rfl,rfl,h0,r0⟩:=trodAll_cons hA;obtain ⟨rfl,rfl,rfl⟩:=trodAll_nil r0;obtain rfl:args=#[v0]:=by cases args;simp_all
  obtain ⟨rfl,rfl⟩:=trodVars_none hV;clear hA0 hval0;simp only [List.append_nil] at hk;have k0:=h0;have lt0:∀ x ∈ p0,x.block<W.heap.size:=by obtain ⟨m,hm⟩:=k0;exact DataW.trod_lt m _ _ _ hm
  have fit0:zx 34 d0:=zx.each 0 (fun m hm=>Nat.le_trans (of_decide_eq_true (List.all_eq_true.1 hS m hm)) (by unfold reachBytes LM;omega)) rfl rfl;obtain ⟨x0,e0,rfl,t0,u0⟩:=jo (hval 0 34 v0 rfl rfl) h0 fit0;have sz:x0.wy≤4194303:=by have h9:Rows.uptoBulkAll [d0]≤1048576:=of_decide_eq_true hk;simp only [Rows.uptoBulkAll] at h9;omega
  refine (KH (fun w9 h9=>awake_any w9 h9) x0 e0 W t0 hT sz).mono fun e W' ⟨he,bel⟩=>?_;subst he;exact ⟨_,rfl,_,_,_,[],_,[],hW',trodAll_mk1 (shut_bool Tryz.underlying4 _),(trodAll_cons_mk (Below.trod KU (by kernel_rfl) (of_decide_eq_true (by kernel_rfl)) k0 bel lt0) trodAll_mk0),rfl,bel.frame _,fun h=>by cases h⟩
theorem KV (os:Os):laidMet Tryz.prog Rows.printerExprsUptoRow.laid ((laidWorld os).forCall (fun _ _=>0) ⟨#[],#[.agg #[.int .i64 0,.int .i64 0,.int .i64 0,.int .i64 0,.int .i64 0,.string ⟨#[]⟩,.slice none 0 0,.slice none 0 0]],[]⟩).memory:=
  laidMet_of_run' 8 (by kernel_rfl) (by kernel_rfl)
theorem reads (os:Os) {H:Type} (enc:TypeId × Value→H):∃ places,DataW.whole enc Tryz.prog ((laidWorld os).forCall (fun _ _=>0) ⟨#[],#[.agg #[.int .i64 0,.int .i64 0,.int .i64 0,.int .i64 0,.int .i64 0,.string ⟨#[]⟩,.slice none 0 0,.slice none 0 0]],[]⟩).memory Tryz.f4.params.toList Rows.printerExprsSpec.vars false #[.agg #[.int .i64 0,.int .i64 0,.int .i64 0,.int .i64 0,.int .i64 0,.string ⟨#[]⟩,.slice none 0 0,.slice none 0 0]].toList 8=some ([.agg [.lit (.int .i64 0),.lit (.int .i64 0),.lit (.int .i64 0),.agg [.lit (.int .i64 0),.lit (.int .i64 0)],.lit (.string []),.nil,.nil]],[],places):=
  ⟨[],by kernel_rfl⟩
theorem K6 (os:Os) (started:os.Started) (H:Type) (enc:TypeId × Value→H) (F:Stop.Interp) :
    ReturnsInHanded {} Tryz.checked os 4 .any ((Rows.OpenSpec.upto Rows.printerExprsSpec).preRow enc Tryz.prog Tryz.f4 Rows.printerExprsUptoRow.domain false Rows.printerExprsUptoRow.laid) (((Rows.OpenSpec.upto Rows.printerExprsSpec).at F).post enc Tryz.prog Tryz.f4 false true false false):=by
  obtain ⟨places,hx⟩:=reads os enc
  refine returnsInHanded_of_row (C:=Tryz.checked) (s:=Rows.OpenSpec.upto Rows.printerExprsSpec) own started (by kernel_rfl) Tryz.func4
    (witness_row_at (enc:=enc) (C:=Tryz.checked) false (laidWorld os) #[.agg #[.int .i64 0,.int .i64 0,.int .i64 0,.int .i64 0,.int .i64 0,.string ⟨#[]⟩,.slice none 0 0,.slice none 0 0]] rfl (by kernel_rfl) (by kernel_rfl) (by kernel_rfl)
      (OpenSpec.preRow_of_cond 8 hx (by kernel_rfl) (fun k hk=>by cases hk;kernel_rfl) (by kernel_rfl) (KV os))) ?_
  intro W base args ds gs before hval hW _ hcond hS hL _ _;exact Qz H enc W base args ds gs before hval hW hL hS (hcond _ rfl)
theorem j8:Rows.PrinterExprsUptoSaid:=
  OpenClaim.holds_of_cond 4 Tryz.f4 rfl rfl rfl rfl rfl rfl rfl ⟨rfl,rfl,rfl,rfl,rfl⟩ rfl rfl rfl rfl rfl (by kernel_rfl) Tryz.func4 (by kernel_rfl)
    (of_decide_eq_true (by kernel_rfl)) (by unfold Func.isWrapper;first|(rw [if_pos (by decide +kernel)];kernel_rfl)|(rw [if_neg (by decide +kernel)];exact ⟨rfl,rfl⟩))
    (fun os started H enc _ F=>by rw [OpenClaim.pre_eq_preRow];exact K6 os started H enc F)
theorem plain (f:FuncId) (fn:Func) (hf:Tryz.pinned.checked.prog.funcNamed "scripting/scriptinglaw07.PrinterExprs" = some f) (hfn:Tryz.pinned.checked.prog.funcs[f]?=some fn) :
    true=Tryz.pinned.checked.prog.looks []∧∀ (j:Nat) t,fn.params[j]?=some t→Tryz.pinned.checked.prog.wantsStandIn t=false:=by
  obtain rfl:f=4:=Option.some.inj ((show Tryz.prog.funcNamed "scripting/scriptinglaw07.PrinterExprs" = some 4 by kernel_rfl).symm.trans hf) |>.symm
  obtain rfl:fn=Tryz.f4:=(Option.some.inj (Tryz.func4.symm.trans hfn)).symm;refine ⟨by kernel_rfl,fun j t ht=>?_⟩;rw [Tryz.params4] at ht;have hm:=Array.mem_of_getElem? ht;simp only [List.mem_toArray,List.mem_cons,List.not_mem_nil,or_false] at hm;subst hm;exact (show Tryz.prog.wantsStandIn 34=false by kernel_rfl)
theorem card:Rows.PrinterExprsUptoCardSaid:=
  Claim7.holds_tied_plain_at .later [] _ _ _ _ j8 (fun _ h=>by cases h) (by kernel_rfl) (fun _ h=>by cases h) printerExprsUpto_row_tie rfl ⟨rfl,rfl⟩ (by kernel_rfl) rfl plain (by kernel_rfl)
end Go.Proofs.YtalopgnjgbiopaaGreatDoor.exprs
