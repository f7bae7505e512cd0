import Derived.Test.YtbahacapnaohcaaGreatDoorA28
set_option linter.unusedVariables false
set_option linter.unusedSimpArgs false
namespace Go.Proofs.YtbahacapnaohcaaGreatDoor.fnExactProgShift
open Go.ChangeShapes Go.WideShapes Go.ChangeAt Go.RowKit Go.Proofs.YtbahacapnaohcaaGreatDoor.PB
abbrev args0:Array Value:=#[.agg #[.slice none 0 0,.slice none 0 0,.slice none 0 0],.int .i64 0]
theorem door_met (os:Os):laidMetH Tryz.prog Rows.fnExactProgShiftRow.laid ((World.doorLaid Tryz.prog 82 os).forCall (fun _ _=>0) ⟨#[],args0,[]⟩).memory:=
 laidMetH_of_parts3 (fuel:=8) (laidMet_of_run' 8 (by kernel_rfl) (by kernel_rfl)) (by kernel_rfl) (by kernel_rfl)
theorem reads (os:Os) {H:Type} (enc:TypeId × Value→H):∃ x,DataW.whole enc Tryz.prog ((World.doorLaid Tryz.prog 82 os).forCall (fun _ _=>0) ⟨#[],args0,[]⟩).memory Tryz.f5.params.toList Rows.fnExactProgShiftSpec.vars false args0.toList 8=some x:=
 Option.isSome_iff_exists.1 (by kernel_rfl)
theorem refB (os:Os):((World.doorLaid Tryz.prog 82 os).forCall (fun _ _=>0) ⟨#[],args0,[]⟩).variablesRefB Tryz.checked.prog=true:=by kernel_rfl
theorem heapB (os:Os):(((World.doorLaid Tryz.prog 82 os).forCall (fun _ _=>0) ⟨#[],args0,[]⟩).heap.toList.drop Tryz.checked.prog.globals.size).take ((begin Tryz.checked.prog (fun _ _=>0) default).world.heap.size - Tryz.checked.prog.globals.size) =
 (begin Tryz.checked.prog (fun _ _=>0) default).world.heap.toList.drop Tryz.checked.prog.globals.size:=by kernel_rfl
theorem okB (os:Os):Input.okWideB Tryz.checked.prog ((World.doorLaid Tryz.prog 82 os).forCall (fun _ _=>0) ⟨#[],args0,[]⟩) 5 ⟨#[],args0,[]⟩=true:=by kernel_rfl
theorem noInit:Tryz.checked.prog.inits.idxOf? 5=none:=by kernel_rfl
end Go.Proofs.YtbahacapnaohcaaGreatDoor.fnExactProgShift
namespace Go.Proofs.YtbahacapnaohcaaGreatDoor.fnExactProgShift
open Go.ChangeShapes Go.WideShapes Go.ChangeAt Go.RowKit Go.Proofs.YtbahacapnaohcaaGreatDoor.PB
set_option maxRecDepth 100000 in
theorem lifted (os:Os) (started:os.Started) (H:Type) (enc:TypeId × Value→H) (F:Stop.Interp) :
 ReturnsInHanded {} Tryz.checked os 5 .any ((OpenSpec.ofChange Rows.fnExactProgShiftSpec).preRow enc Tryz.prog Tryz.f5 Rows.fnExactProgShiftRow.domain false Rows.fnExactProgShiftRow.laid) (((OpenSpec.ofChange Rows.fnExactProgShiftSpec).at F).post enc Tryz.prog Tryz.f5 false true false false):=by
 obtain ⟨x,hx⟩:=reads os enc;refine returnsInHanded_of_row (C:=Tryz.checked) (s:=OpenSpec.ofChange Rows.fnExactProgShiftSpec) own started noInit Tryz.func5
  (witness_row_atRef (enc:=enc) (C:=Tryz.checked) false (World.doorLaid Tryz.prog 82 os) args0 rfl (refB os) (heapB os) (okB os)
   (OpenSpec.preRow_of_cond 8 hx rfl (fun k hk=>by cases hk) (by kernel_rfl) (door_met os))) ?_
 intro W base args ds gs before hval hW _ _ _ hL hS _;exact contract H enc W base args ds gs before hval hW hL hS
end Go.Proofs.YtbahacapnaohcaaGreatDoor.fnExactProgShift
