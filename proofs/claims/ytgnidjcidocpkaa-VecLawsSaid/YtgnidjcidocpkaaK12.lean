/-
  Contracts: VecOrders.
-/
import Derived.Test.YtgnidjcidocpkaaK11
namespace Go.Fx
open Go Go.Proofs
set_option maxRecDepth 100000
set_option linter.unusedVariables false
noncomputable def C_VecOrders : Contract := { args := [.agg .mat], res := [.bool], pre := fun _ => True, F := fun x => ((true : Bool), ()) }
def T_VecOrders (m : M3) : Prop :=
  (True ∧
(((!true) = true →
 (false, ()) = (true, ())) ∧
((!true) = false →
(True ∧
(True ∧
(True ∧
(True ∧
((((decide ((selM (uniE m) (wM (scaZ (detZ m) (adjZ m)))).xx = (selM (uniE m) (wM (scaZ (detZ m) (adjZ m)))).xx)) && ((decide ((selM (uniE m) (wM (scaZ (detZ m) (adjZ m)))).xy = (selM (uniE m) (wM (scaZ (detZ m) (adjZ m)))).xy)) && ((decide ((selM (uniE m) (wM (scaZ (detZ m) (adjZ m)))).xz = (selM (uniE m) (wM (scaZ (detZ m) (adjZ m)))).xz)) && ((decide ((selM (uniE m) (wM (scaZ (detZ m) (adjZ m)))).yx = (selM (uniE m) (wM (scaZ (detZ m) (adjZ m)))).yx)) && ((decide ((selM (uniE m) (wM (scaZ (detZ m) (adjZ m)))).yy = (selM (uniE m) (wM (scaZ (detZ m) (adjZ m)))).yy)) && ((decide ((selM (uniE m) (wM (scaZ (detZ m) (adjZ m)))).yz = (selM (uniE m) (wM (scaZ (detZ m) (adjZ m)))).yz)) && ((decide ((selM (uniE m) (wM (scaZ (detZ m) (adjZ m)))).zx = (selM (uniE m) (wM (scaZ (detZ m) (adjZ m)))).zx)) && ((decide ((selM (uniE m) (wM (scaZ (detZ m) (adjZ m)))).zy = (selM (uniE m) (wM (scaZ (detZ m) (adjZ m)))).zy)) && ((decide ((selM (uniE m) (wM (scaZ (detZ m) (adjZ m)))).zz = (selM (uniE m) (wM (scaZ (detZ m) (adjZ m)))).zz)) && true))))))))) = true →
 (((decide (uniE m = uniE m)) = true →
  (((decide (ordZ m = docO m)) = true →
   ((decide (ordE m = docE m)), ()) = (true, ())) ∧
  ((decide (ordZ m = docO m)) = false →
  (false, ()) = (true, ())))) ∧
 ((decide (uniE m = uniE m)) = false →
 (false, ()) = (true, ())))) ∧
(((decide ((selM (uniE m) (wM (scaZ (detZ m) (adjZ m)))).xx = (selM (uniE m) (wM (scaZ (detZ m) (adjZ m)))).xx)) && ((decide ((selM (uniE m) (wM (scaZ (detZ m) (adjZ m)))).xy = (selM (uniE m) (wM (scaZ (detZ m) (adjZ m)))).xy)) && ((decide ((selM (uniE m) (wM (scaZ (detZ m) (adjZ m)))).xz = (selM (uniE m) (wM (scaZ (detZ m) (adjZ m)))).xz)) && ((decide ((selM (uniE m) (wM (scaZ (detZ m) (adjZ m)))).yx = (selM (uniE m) (wM (scaZ (detZ m) (adjZ m)))).yx)) && ((decide ((selM (uniE m) (wM (scaZ (detZ m) (adjZ m)))).yy = (selM (uniE m) (wM (scaZ (detZ m) (adjZ m)))).yy)) && ((decide ((selM (uniE m) (wM (scaZ (detZ m) (adjZ m)))).yz = (selM (uniE m) (wM (scaZ (detZ m) (adjZ m)))).yz)) && ((decide ((selM (uniE m) (wM (scaZ (detZ m) (adjZ m)))).zx = (selM (uniE m) (wM (scaZ (detZ m) (adjZ m)))).zx)) && ((decide ((selM (uniE m) (wM (scaZ (detZ m) (adjZ m)))).zy = (selM (uniE m) (wM (scaZ (detZ m) (adjZ m)))).zy)) && ((decide ((selM (uniE m) (wM (scaZ (detZ m) (adjZ m)))).zz = (selM (uniE m) (wM (scaZ (detZ m) (adjZ m)))).zz)) && true))))))))) = false →
(false, ()) = (true, ()))))))))))
theorem r_VecOrders (x : HL C_VecOrders.args) : runs (env [(10, C_awake), (25, C_Inverse), (26, C_DocInverse), (27, C_Order), (28, C_DocOrder)] []) 400 6 C_VecOrders x = T_VecOrders x.1 := by kernel_rfl
theorem p_VecOrders (m : M3) (h0 : (Sh.agg .mat).okA m) : T_VecOrders m := by
  obtain ⟨e1, e2⟩ := ord_doc m
  simp [T_VecOrders, e1, e2]
theorem s_VecOrders : Sound Try.prog 6 C_VecOrders :=
  sound_of_eq (env_ok (.cons s_awake (.cons s_Inverse (.cons s_DocInverse (.cons s_Order (.cons s_DocOrder (.nil))))))) (fun x => T_VecOrders x.1) r_VecOrders fun x ok hp => p_VecOrders x.1 ok.1
end Go.Fx
