import Derived.Test.YtbahacapnaohcaaGreatDoorR6
set_option linter.unusedVariables false
set_option linter.unusedSimpArgs false
namespace Go.Proofs.YtbahacapnaohcaaGreatDoor.fnExactProgShift
open Go.ChangeShapes Go.WideShapes Go.ChangeAt Go.RowKit Go.Proofs.YtbahacapnaohcaaGreatDoor.PB
theorem funcN:Tryz.pinned.checked.prog.funcNamed Rows.fnExactProgShiftRow.func=some 5:=by kernel_rfl
theorem instN:Tryz.f5.isInstance Tryz.pinned.checked.prog Rows.fnExactProgShiftRow.origin Rows.fnExactProgShiftRow.targs:=of_decide_eq_true (by kernel_rfl)
theorem wrapN:Tryz.f5.isWrapper Tryz.pinned.checked.prog Rows.fnExactProgShiftRow.wrapper Rows.fnExactProgShiftRow.mainSum:=by unfold Func.isWrapper;first|(rw [if_pos (by decide +kernel)];kernel_rfl)|(rw [if_neg (by decide +kernel)];exact ⟨rfl,rfl⟩)
theorem said:Rows.FnExactProgShiftSaid:=
 OpenClaim.holds_of_cond 5 Tryz.f5 rfl rfl rfl rfl rfl rfl rfl ⟨rfl,rfl,rfl,rfl,rfl⟩ rfl rfl rfl rfl rfl funcN Tryz.func5 closed instN wrapN
  (fun os started H enc _ F=>by rw [OpenClaim.pre_eq_preRow];exact lifted os started H enc F)
theorem plain (f : FuncId) (fn : Func) (hf : Tryz.pinned.checked.prog.funcNamed "loop.example/pinfold/laws.FnExactProgShift" = some f) (hfn : Tryz.pinned.checked.prog.funcs[f]? = some fn) :
 true=Tryz.pinned.checked.prog.looks []∧∀ (j:Nat) t,fn.params[j]?=some t→Tryz.pinned.checked.prog.wantsStandIn t=false:=by
 obtain rfl:f=5:=Option.some.inj (funcN.symm.trans hf) |>.symm;obtain rfl:fn=Tryz.f5:=(Option.some.inj (Tryz.func5.symm.trans hfn)).symm;refine ⟨by as_aux_lemma=>kernel_rfl,fun j t ht=>?_⟩;rw [Tryz.params5] at ht;have hm:t∈[52,3]:=by simpa using Array.mem_of_getElem? ht
 have hall:([52,3].all fun u=>!Tryz.prog.wantsStandIn u)=true:=by as_aux_lemma=>kernel_rfl
 exact (show Tryz.prog.wantsStandIn t=false by simpa using List.all_eq_true.1 hall t hm)
end Go.Proofs.YtbahacapnaohcaaGreatDoor.fnExactProgShift
