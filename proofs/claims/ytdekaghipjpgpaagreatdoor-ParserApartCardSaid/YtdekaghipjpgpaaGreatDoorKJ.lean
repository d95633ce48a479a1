/- ParserApart holds. -/
import Derived.Test.YtdekaghipjpgpaaGreatDoorKF
import Derived.Test.YtdekaghipjpgpaaGreatDoorO7
import Derived.Test.YtdekaghipjpgpaaGreatDoorO1
namespace Go.Proofs.YtdekaghipjpgpaaGreatDoor.apart
open Go.ChangeShapes Go.WideShapes Go.ChangeAt Go.RowKit
open Go.ChangeMaps (open_string shut_string)
set_option linter.unusedVariables false
set_option linter.unusedSimpArgs false
set_option maxRecDepth 100000
theorem alt_zero' {a b:Int} (h:alt a b=0):a=0∧b=0:=by
  unfold alt at h;split at h
  · exact ⟨by assumption,h⟩
  · exact absurd h (by assumption)
theorem check_zero {b:List St} (h:checkV b=0):firstE (errSs b)=0:=by
  unfold checkV at h;split at h
  · cases h
  · exact h
theorem errY_last {s:St} (h:(s.kind==11)=false) (l l':Bool):errY s l=errY s l':=by
  have hk:¬ s.kind=11:=by simpa using h
  have hf:formSB s l=formSB s l':=by unfold formSB;simp only [if_neg hk]
  unfold errY;rw [hf]
theorem errSs_app {a b:List St} (ha:firstE (errSs a)=0) (hb:firstE (errSs b)=0) (h:∀ s,a.getLast?=some s→(s.kind==11)=false):firstE (errSs (a++b))=0:=by
  induction a with
  | nil=>exact hb
  | cons s r ih =>
    change alt (errS r.isEmpty s) (firstE (errSs r))=0 at ha;obtain ⟨h1,h2⟩:=alt_zero' ha;show alt (errS (r++b).isEmpty s) (firstE (errSs (r++b)))=0;rw [ih h2 (fun x hx=>h x (by cases r with|nil=>cases hx|cons y q=>rw [List.getLast?_cons_cons];exact hx))]
    have h3:errS (r++b).isEmpty s=0:=by
      cases r with
      | nil =>
        have hk:=h s rfl;cases b with
        | nil=>exact h1
        | cons y q =>
          rw [errS_eq] at h1 ⊢;rw [errY_last hk _ true];exact h1
      | cons y q=>exact h1
    rw [h3];rfl
theorem apart_cv (a b:List St) (e:Nat) (ha:checkV a=0) (hb:checkV b=0) (h:∀ x,a.getLast?=some x→(x.kind==11)=false):checkV (a++St.mls (upL e) b)=0∨checkV (a++St.mls (upL e) b)=3:=by
  have h1:=errSs_app (check_zero ha) (check_zero ((up_check e b).trans hb)) h;unfold checkV;split
  · exact .inr rfl
  · exact .inl h1
set_option maxHeartbeats 1000000 in
theorem contract (H:Type) (enc:TypeId × Value→H) (W:World) (base:Nat) (args:Array Value) (ds gs:List (DataW H)) (before:List MemPlace)
    (hval0:∀ (j:Nat) t v,Tryz.f7.params[j]?=some t→args[j]?=some v→Value.okWide Tryz.prog W .any base t v)
    (hW:DataW.Whole enc Tryz.prog Tryz.f7.params.toList Rows.parserApartSpec.vars false W args.toList ds gs before) (hL:laidMetH Tryz.prog Rows.parserApartRow.laid W) :
    Calls Tryz.prog 7 args W fun e W'=>∃ v,e=.returned v∧Rows.parserApartSpec.post enc Tryz.prog Tryz.f7 false true false false W args v W':=by
  have hT:=sp_of hL;have hval:∀ (j:Nat) t v,Tryz.f7.params[j]?=some t→args[j]?=some v→Value.okWide Tryz.prog W .any base t v:=hval0;have hW':=hW;obtain ⟨p,q,hA0,hV,rfl,hfz,hnd⟩:=hW;have hA:DataW.TrodAll enc Tryz.prog W 0 (fun _=>true) true Tryz.f7.params.toList args.toList ds p:=hA0;rw [Tryz.params7] at hA hval;obtain ⟨v0,vs0,d0,ds0,p0,q0,hargs,rfl,rfl,h0,r0⟩:=trodAll_cons hA;obtain ⟨v1,vs1,d1,ds1,p1,q1,rfl,rfl,rfl,h1,r1⟩:=trodAll_cons r0;obtain ⟨rfl,rfl,rfl⟩:=trodAll_nil r1;obtain rfl:args=#[v0,v1]:=by cases args;simp_all
  obtain ⟨rfl,rfl⟩:=trodVars_none hV;clear hA0 hval0;have k0:=h0;have lt0:∀ x ∈ p0,x.block<W.heap.size:=by obtain ⟨m,hm⟩:=k0;exact DataW.trod_lt m _ _ _ hm
  obtain ⟨a0,rfl,rfl,rfl,w0⟩:=open_string Tryz.underlying9 (hval 0 9 v0 rfl rfl) h0;have k1:=h1;have lt1:∀ x ∈ p1,x.block<W.heap.size:=by obtain ⟨m,hm⟩:=k1;exact DataW.trod_lt m _ _ _ hm
  obtain ⟨a1,rfl,rfl,rfl,w1⟩:=open_string Tryz.underlying9 (hval 1 9 v1 rfl rfl) h1;refine (apart_walk tck live_one apart_cv a0 a1 W hT).mono fun e W' ⟨he,bel⟩=>?_;subst he;exact ⟨_,rfl,_,_,_,[],_,[],hW',trodAll_mk1 (shut_bool Tryz.underlying4 _),(trodAll_cons_mk (Below.trod laidOut (by kernel_rfl) (of_decide_eq_true (by kernel_rfl)) k0 bel lt0) (trodAll_cons_mk (Below.trod laidOut (by kernel_rfl) (of_decide_eq_true (by kernel_rfl)) k1 bel lt1) trodAll_mk0)),rfl,bel.frame _,fun h=>by cases h⟩
theorem laid_met (os:Os):laidMet Tryz.prog Rows.parserApartRow.laid ((laidWorld os).forCall (fun _ _=>0) ⟨#[],#[.string ⟨#[]⟩,.string ⟨#[]⟩],[]⟩).memory :=
  laid_met0 os _
theorem reads (os:Os) {H:Type} (enc:TypeId × Value→H):∃ places,DataW.whole enc Tryz.prog ((laidWorld os).forCall (fun _ _=>0) ⟨#[],#[.string ⟨#[]⟩,.string ⟨#[]⟩],[]⟩).memory Tryz.f7.params.toList Rows.parserApartSpec.vars false #[.string ⟨#[]⟩,.string ⟨#[]⟩].toList 8=some ([.lit (.string []),.lit (.string [])],[],places) :=
  ⟨[],by kernel_rfl⟩
theorem lifted (os:Os) (started:os.Started) (H:Type) (enc:TypeId × Value→H) (F:Stop.Interp) :
    ReturnsInHanded {} Tryz.checked os 7 .any ((OpenSpec.ofChange Rows.parserApartSpec).preRow enc Tryz.prog Tryz.f7 Rows.parserApartRow.domain false Rows.parserApartRow.laid) (((OpenSpec.ofChange Rows.parserApartSpec).at F).post enc Tryz.prog Tryz.f7 false true false false):=by
  obtain ⟨places,hx⟩:=reads os enc
  refine returnsInHanded_of_row (C:=Tryz.checked) (s:=OpenSpec.ofChange Rows.parserApartSpec) own started (by kernel_rfl) Tryz.func7
    (witness_row_atRef (enc:=enc) (C:=Tryz.checked) false (laidWorld os) #[.string ⟨#[]⟩,.string ⟨#[]⟩] rfl (by kernel_rfl) (by kernel_rfl) (by kernel_rfl)
      (OpenSpec.preRow_of_cond 8 hx (by kernel_rfl) (fun k hk=>by cases hk) (by kernel_rfl) (laid_met os))) ?_
  intro W base args ds gs before hval hW _ _ _ hL _ _;exact contract H enc W base args ds gs before hval hW hL
theorem said:Rows.ParserApartSaid :=
  OpenClaim.holds_of_cond 7 Tryz.f7 rfl rfl rfl rfl rfl rfl rfl ⟨rfl,rfl,rfl,rfl,rfl⟩ rfl rfl rfl rfl rfl (by kernel_rfl) Tryz.func7 (by kernel_rfl)
    (of_decide_eq_true (by kernel_rfl)) (by unfold Func.isWrapper;first|(rw [if_pos (by decide +kernel)];kernel_rfl)|(rw [if_neg (by decide +kernel)];exact ⟨rfl,rfl⟩))
    (fun os started H enc _ F=>by rw [OpenClaim.pre_eq_preRow];exact lifted os started H enc F)
theorem plain (f:FuncId) (fn:Func) (hf:Tryz.pinned.checked.prog.funcNamed "scripting/scriptinglaw06.ParserApart" = some f) (hfn:Tryz.pinned.checked.prog.funcs[f]?=some fn) :
    true=Tryz.pinned.checked.prog.looks []∧∀ (j:Nat) t,fn.params[j]?=some t→Tryz.pinned.checked.prog.wantsStandIn t=false:=by
  obtain rfl:f=7:=Option.some.inj ((show Tryz.prog.funcNamed "scripting/scriptinglaw06.ParserApart" = some 7 by kernel_rfl).symm.trans hf) |>.symm
  obtain rfl:fn=Tryz.f7:=(Option.some.inj (Tryz.func7.symm.trans hfn)).symm;refine ⟨by kernel_rfl,fun j t ht=>?_⟩;rw [Tryz.params7] at ht;have hm:=Array.mem_of_getElem? ht;simp only [List.mem_toArray,List.mem_cons,List.not_mem_nil,or_false] at hm;rcases hm with rfl|rfl
  · exact (show Tryz.prog.wantsStandIn 9=false by kernel_rfl)
  · exact (show Tryz.prog.wantsStandIn 9=false by kernel_rfl)
theorem card:Rows.ParserApartCardSaid :=
  Claim7.holds_tied_plain_at .later [] _ _ _ _ said (fun _ h=>by cases h) (by kernel_rfl) (fun _ h=>by cases h) parserApart_row_tie rfl ⟨rfl,rfl⟩ (by kernel_rfl) rfl plain (by kernel_rfl)
end Go.Proofs.YtdekaghipjpgpaaGreatDoor.apart
