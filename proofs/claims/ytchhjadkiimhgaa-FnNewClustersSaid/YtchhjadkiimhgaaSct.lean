/- The contracts of the functions -/
import Derived.Test.YtchhjadkiimhgaaSea
import Derived.Test.YtchhjadkiimhgaaSeb
import Derived.Test.YtchhjadkiimhgaaSec
import Derived.Test.YtchhjadkiimhgaaSed
import Derived.Test.YtchhjadkiimhgaaSee
import Derived.Test.YtchhjadkiimhgaaSef
import Derived.Test.YtchhjadkiimhgaaHdSrcW
import Derived.Test.YtchhjadkiimhgaaHdSortW23
import Derived.Test.YtchhjadkiimhgaaHdRevW
import Derived.Test.YtchhjadkiimhgaaDxr
set_option linter.unusedVariables false
set_option linter.unusedSimpArgs false
set_option maxRecDepth 100000
set_option maxHeartbeats 0
namespace Go.Dx
open Go.Proofs
namespace CL

theorem b_laws_lwBig:Try.f4.body.isSome=true:=by kernel_rfl
theorem n_laws_lwBig:(Try.f4.name == "runtime.NumGoroutine")=false:=by kernel_rfl
theorem c_laws_lwBig:Contract Try.prog 4 K_laws_lwBig:=contract_of (C:=X_laws_lwBig) (fn:=Try.f4) (tysOk_at (C:=X0) rfl tysOk) (ctxOk_of (P:=Try.prog) trivial) follows Try.func4 b_laws_lwBig n_laws_lwBig (fun t ys h=>(e_laws_lwBig t).trans h)
theorem b_spec_l1Source:Try.f13.body.isSome=true:=by kernel_rfl
theorem n_spec_l1Source:(Try.f13.name == "runtime.NumGoroutine")=false:=by kernel_rfl
theorem c_spec_l1Source:NewOk Try.prog 13 N_spec_l1Source:=src_ok
theorem b_spec_l1Next:Try.f16.body.isSome=true:=by kernel_rfl
theorem n_spec_l1Next:(Try.f16.name == "runtime.NumGoroutine")=false:=by kernel_rfl
theorem c_spec_l1Next:Contract Try.prog 16 K_spec_l1Next:=contract_of (C:=X_spec_l1Next) (fn:=Try.f16) (tysOk_at (C:=X0) rfl tysOk) (ctxOk_of (P:=Try.prog) trivial) follows Try.func16 b_spec_l1Next n_spec_l1Next (fun t ys h=>(e_spec_l1Next t).trans h)
theorem b_spec_l1Pick:Try.f17.body.isSome=true:=by kernel_rfl
theorem n_spec_l1Pick:(Try.f17.name == "runtime.NumGoroutine")=false:=by kernel_rfl
theorem c_spec_l1Pick:Contract Try.prog 17 K_spec_l1Pick:=contract_of (C:=X_spec_l1Pick) (fn:=Try.f17) (tysOk_at (C:=X0) rfl tysOk) (ctxOk_of (P:=Try.prog) ⟨c_spec_l1Next,trivial⟩) follows Try.func17 b_spec_l1Pick n_spec_l1Pick (fun t ys h=>(e_spec_l1Pick t).trans h)
theorem b_spec_l10DrawKeys:Try.f15.body.isSome=true:=by kernel_rfl
theorem n_spec_l10DrawKeys:(Try.f15.name == "runtime.NumGoroutine")=false:=by kernel_rfl
theorem c_spec_l10DrawKeys:Contract Try.prog 15 K_spec_l10DrawKeys:=contract_of (C:=X_spec_l10DrawKeys) (fn:=Try.f15) (tysOk_at (C:=X0) rfl tysOk) (ctxOk_of (P:=Try.prog) ⟨c_spec_l1Next,trivial⟩) follows Try.func15 b_spec_l10DrawKeys n_spec_l10DrawKeys (fun t ys h=>(e_spec_l10DrawKeys t).trans h)
theorem b_spec_l10Draw:Try.f42.body.isSome=true:=by kernel_rfl
theorem n_spec_l10Draw:(Try.f42.name == "runtime.NumGoroutine")=false:=by kernel_rfl
theorem c_spec_l10Draw:Contract Try.prog 42 K_spec_l10Draw:=contract_of (C:=X_spec_l10Draw) (fn:=Try.f42) (tysOk_at (C:=X0) rfl tysOk) (ctxOk_of (P:=Try.prog) ⟨c_spec_l10DrawKeys,c_spec_l1Next,c_spec_l1Pick,trivial⟩) follows Try.func42 b_spec_l10Draw n_spec_l10Draw (fun t ys h=>(e_spec_l10Draw t).trans h)
theorem b_spec_l10Bent:Try.f14.body.isSome=true:=by kernel_rfl
theorem n_spec_l10Bent:(Try.f14.name == "runtime.NumGoroutine")=false:=by kernel_rfl
theorem c_spec_l10Bent:Contract Try.prog 14 K_spec_l10Bent:=contract_of (C:=X_spec_l10Bent) (fn:=Try.f14) (tysOk_at (C:=X0) rfl tysOk) (ctxOk_of (P:=Try.prog) ⟨c_spec_l1Next,c_spec_l1Pick,c_spec_l10Draw,trivial⟩) follows Try.func14 b_spec_l10Bent n_spec_l10Bent (fun t ys h=>(e_spec_l10Bent t).trans h)
theorem b_spec_DrawNewCluster:Try.f5.body.isSome=true:=by kernel_rfl
theorem n_spec_DrawNewCluster:(Try.f5.name == "runtime.NumGoroutine")=false:=by kernel_rfl
theorem c_spec_DrawNewCluster:Contract Try.prog 5 K_spec_DrawNewCluster:=contract_of (C:=X_spec_DrawNewCluster) (fn:=Try.f5) (tysOk_at (C:=X0) rfl tysOk) (ctxOk_np (P:=Try.prog) ⟨c_spec_l10Bent,c_spec_l10DrawKeys,c_spec_l1Next,c_spec_l1Pick,trivial⟩ ⟨c_spec_l1Source,trivial⟩) follows Try.func5 b_spec_DrawNewCluster n_spec_DrawNewCluster (fun t ys h=>(e_spec_DrawNewCluster t).trans h)
theorem b_impl_within:Try.f19.body.isSome=true:=by kernel_rfl
theorem n_impl_within:(Try.f19.name == "runtime.NumGoroutine")=false:=by kernel_rfl
theorem c_impl_within:Contract Try.prog 19 K_impl_within:=contract_of (C:=X_impl_within) (fn:=Try.f19) (tysOk_at (C:=X0) rfl tysOk) (ctxOk_of (P:=Try.prog) trivial) follows Try.func19 b_impl_within n_impl_within (fun t ys h=>(e_impl_within t).trans h)
theorem b_slices_IndexFunc_Lint64_int64:Try.f62.body.isSome=true:=by kernel_rfl
theorem n_slices_IndexFunc_Lint64_int64:(Try.f62.name == "runtime.NumGoroutine")=false:=by kernel_rfl
theorem c_slices_IndexFunc_Lint64_int64:Contract Try.prog 62 K_slices_IndexFunc_Lint64_int64:=contract_of (C:=X_slices_IndexFunc_Lint64_int64) (fn:=Try.f62) (tysOk_at (C:=X0) rfl tysOk) (ctxOk_of (P:=Try.prog) trivial) follows Try.func62 b_slices_IndexFunc_Lint64_int64 n_slices_IndexFunc_Lint64_int64 (fun t ys h=>(e_slices_IndexFunc_Lint64_int64 t).trans h)
theorem b_slices_ContainsFunc_Lint64_int64:Try.f36.body.isSome=true:=by kernel_rfl
theorem n_slices_ContainsFunc_Lint64_int64:(Try.f36.name == "runtime.NumGoroutine")=false:=by kernel_rfl
theorem c_slices_ContainsFunc_Lint64_int64:Contract Try.prog 36 K_slices_ContainsFunc_Lint64_int64:=contract_of (C:=X_slices_ContainsFunc_Lint64_int64) (fn:=Try.f36) (tysOk_at (C:=X0) rfl tysOk) (ctxOk_of (P:=Try.prog) ⟨c_slices_IndexFunc_Lint64_int64,trivial⟩) follows Try.func36 b_slices_ContainsFunc_Lint64_int64 n_slices_ContainsFunc_Lint64_int64 (fun t ys h=>(e_slices_ContainsFunc_Lint64_int64 t).trans h)
theorem b_impl_isKey:Try.f67.body.isSome=true:=by kernel_rfl
theorem n_impl_isKey:(Try.f67.name == "runtime.NumGoroutine")=false:=by kernel_rfl
theorem c_impl_isKey:Contract Try.prog 67 K_impl_isKey:=contract_of (C:=X_impl_isKey) (fn:=Try.f67) (tysOk_at (C:=X0) rfl tysOk) (ctxOk_of (P:=Try.prog) ⟨c_impl_within,trivial⟩) follows Try.func67 b_impl_isKey n_impl_isKey (fun t ys h=>(e_impl_isKey t).trans h)
theorem b_impl_areKeys_c1:Try.f66.body.isSome=true:=by kernel_rfl
theorem n_impl_areKeys_c1:(Try.f66.name == "runtime.NumGoroutine")=false:=by kernel_rfl
theorem c_impl_areKeys_c1:Contract Try.prog 66 K_impl_areKeys_c1:=contract_of (C:=X_impl_areKeys_c1) (fn:=Try.f66) (tysOk_at (C:=X0) rfl tysOk) (ctxOk_of (P:=Try.prog) ⟨c_impl_isKey,trivial⟩) follows Try.func66 b_impl_areKeys_c1 n_impl_areKeys_c1 (fun t ys h=>(e_impl_areKeys_c1 t).trans h)
theorem b_impl_areKeys:Try.f43.body.isSome=true:=by kernel_rfl
theorem n_impl_areKeys:(Try.f43.name == "runtime.NumGoroutine")=false:=by kernel_rfl
theorem c_impl_areKeys:Contract Try.prog 43 K_impl_areKeys:=contract_of (C:=X_impl_areKeys) (fn:=Try.f43) (tysOk_at (C:=X0) rfl tysOk) (ctxOk_of (P:=Try.prog) ⟨c_slices_ContainsFunc_Lint64_int64,c_impl_areKeys_c1,trivial⟩) follows Try.func43 b_impl_areKeys n_impl_areKeys (fun t ys h=>(e_impl_areKeys t).trans h)
theorem b_impl_isRising:Try.f44.body.isSome=true:=by kernel_rfl
theorem n_impl_isRising:(Try.f44.name == "runtime.NumGoroutine")=false:=by kernel_rfl
theorem c_impl_isRising:Contract Try.prog 44 K_impl_isRising:=contract_of (C:=X_impl_isRising) (fn:=Try.f44) (tysOk_at (C:=X0) rfl tysOk) (ctxOk_of (P:=Try.prog) trivial) follows Try.func44 b_impl_isRising n_impl_isRising (fun t ys h=>(e_impl_isRising t).trans h)
theorem b_impl_QuorumFault:Try.f18.body.isSome=true:=by kernel_rfl
theorem n_impl_QuorumFault:(Try.f18.name == "runtime.NumGoroutine")=false:=by kernel_rfl
theorem c_impl_QuorumFault:Contract Try.prog 18 K_impl_QuorumFault:=contract_of (C:=X_impl_QuorumFault) (fn:=Try.f18) (tysOk_at (C:=X0) rfl tysOk) (ctxOk_of (P:=Try.prog) ⟨c_impl_within,c_impl_areKeys,c_impl_isRising,trivial⟩) follows Try.func18 b_impl_QuorumFault n_impl_QuorumFault (fun t ys h=>(e_impl_QuorumFault t).trans h)
theorem b_impl_badFault:Try.f20.body.isSome=true:=by kernel_rfl
theorem n_impl_badFault:(Try.f20.name == "runtime.NumGoroutine")=false:=by kernel_rfl
theorem c_impl_badFault:Contract Try.prog 20 K_impl_badFault:=contract_of (C:=X_impl_badFault) (fn:=Try.f20) (tysOk_at (C:=X0) rfl tysOk) (ctxOk_of (P:=Try.prog) ⟨c_impl_areKeys,c_impl_isRising,trivial⟩) follows Try.func20 b_impl_badFault n_impl_badFault (fun t ys h=>(e_impl_badFault t).trans h)
theorem b_slices_Clone_Lint64_int64:Try.f21.body.isSome=true:=by kernel_rfl
theorem n_slices_Clone_Lint64_int64:(Try.f21.name == "runtime.NumGoroutine")=false:=by kernel_rfl
theorem c_slices_Clone_Lint64_int64:Contract Try.prog 21 K_slices_Clone_Lint64_int64:=contract_of (C:=X_slices_Clone_Lint64_int64) (fn:=Try.f21) (tysOk_at (C:=X0) rfl tysOk) (ctxOk_of (P:=Try.prog) trivial) follows Try.func21 b_slices_Clone_Lint64_int64 n_slices_Clone_Lint64_int64 (fun t ys h=>(e_slices_Clone_Lint64_int64 t).trans h)
theorem b_slices_DeleteFunc_Lint64_int64:Try.f45.body.isSome=true:=by kernel_rfl
theorem n_slices_DeleteFunc_Lint64_int64:(Try.f45.name == "runtime.NumGoroutine")=false:=by kernel_rfl
theorem c_slices_DeleteFunc_Lint64_int64:Contract Try.prog 45 K_slices_DeleteFunc_Lint64_int64:=contract_of (C:=X_slices_DeleteFunc_Lint64_int64) (fn:=Try.f45) (tysOk_at (C:=X0) rfl tysOk) (ctxOk_of (P:=Try.prog) ⟨c_slices_IndexFunc_Lint64_int64,trivial⟩) follows Try.func45 b_slices_DeleteFunc_Lint64_int64 n_slices_DeleteFunc_Lint64_int64 (fun t ys h=>(e_slices_DeleteFunc_Lint64_int64 t).trans h)
theorem b_slices_Index_Lint64_int64:Try.f68.body.isSome=true:=by kernel_rfl
theorem n_slices_Index_Lint64_int64:(Try.f68.name == "runtime.NumGoroutine")=false:=by kernel_rfl
theorem c_slices_Index_Lint64_int64:Contract Try.prog 68 K_slices_Index_Lint64_int64:=contract_of (C:=X_slices_Index_Lint64_int64) (fn:=Try.f68) (tysOk_at (C:=X0) rfl tysOk) (ctxOk_of (P:=Try.prog) trivial) follows Try.func68 b_slices_Index_Lint64_int64 n_slices_Index_Lint64_int64 (fun t ys h=>(e_slices_Index_Lint64_int64 t).trans h)
theorem b_slices_Contains_Lint64_int64:Try.f47.body.isSome=true:=by kernel_rfl
theorem n_slices_Contains_Lint64_int64:(Try.f47.name == "runtime.NumGoroutine")=false:=by kernel_rfl
theorem c_slices_Contains_Lint64_int64:Contract Try.prog 47 K_slices_Contains_Lint64_int64:=contract_of (C:=X_slices_Contains_Lint64_int64) (fn:=Try.f47) (tysOk_at (C:=X0) rfl tysOk) (ctxOk_of (P:=Try.prog) ⟨c_slices_Index_Lint64_int64,trivial⟩) follows Try.func47 b_slices_Contains_Lint64_int64 n_slices_Contains_Lint64_int64 (fun t ys h=>(e_slices_Contains_Lint64_int64 t).trans h)
theorem b_impl_goodKeys_c1:Try.f46.body.isSome=true:=by kernel_rfl
theorem n_impl_goodKeys_c1:(Try.f46.name == "runtime.NumGoroutine")=false:=by kernel_rfl
theorem c_impl_goodKeys_c1:Contract Try.prog 46 K_impl_goodKeys_c1:=contract_of (C:=X_impl_goodKeys_c1) (fn:=Try.f46) (tysOk_at (C:=X0) rfl tysOk) (ctxOk_of (P:=Try.prog) ⟨c_slices_Contains_Lint64_int64,trivial⟩) follows Try.func46 b_impl_goodKeys_c1 n_impl_goodKeys_c1 (fun t ys h=>(e_impl_goodKeys_c1 t).trans h)
theorem b_impl_goodKeys:Try.f22.body.isSome=true:=by kernel_rfl
theorem n_impl_goodKeys:(Try.f22.name == "runtime.NumGoroutine")=false:=by kernel_rfl
theorem c_impl_goodKeys:Contract Try.prog 22 K_impl_goodKeys:=contract_of (C:=X_impl_goodKeys) (fn:=Try.f22) (tysOk_at (C:=X0) rfl tysOk) (ctxOk_of (P:=Try.prog) ⟨c_slices_Clone_Lint64_int64,c_slices_DeleteFunc_Lint64_int64,c_impl_goodKeys_c1,trivial⟩) follows Try.func22 b_impl_goodKeys n_impl_goodKeys (fun t ys h=>(e_impl_goodKeys t).trans h)
theorem b_slices_SortFunc_Limpl_Voter_impl_Voter:Try.f23.body.isSome=true:=by kernel_rfl
theorem n_slices_SortFunc_Limpl_Voter_impl_Voter:(Try.f23.name == "runtime.NumGoroutine")=false:=by kernel_rfl
theorem c_slices_SortFunc_Limpl_Voter_impl_Voter:Contract Try.prog 23 K_slices_SortFunc_Limpl_Voter_impl_Voter:=sortok23 ⟨Try.f23,Try.func23,b_slices_SortFunc_Limpl_Voter_impl_Voter,n_slices_SortFunc_Limpl_Voter_impl_Voter⟩
theorem b_cmp_isNaN_int64:Try.f50.body.isSome=true:=by kernel_rfl
theorem n_cmp_isNaN_int64:(Try.f50.name == "runtime.NumGoroutine")=false:=by kernel_rfl
theorem c_cmp_isNaN_int64:Contract Try.prog 50 K_cmp_isNaN_int64:=contract_of (C:=X_cmp_isNaN_int64) (fn:=Try.f50) (tysOk_at (C:=X0) rfl tysOk) (ctxOk_of (P:=Try.prog) trivial) follows Try.func50 b_cmp_isNaN_int64 n_cmp_isNaN_int64 (fun t ys h=>(e_cmp_isNaN_int64 t).trans h)
theorem b_cmp_Compare_int64:Try.f25.body.isSome=true:=by kernel_rfl
theorem n_cmp_Compare_int64:(Try.f25.name == "runtime.NumGoroutine")=false:=by kernel_rfl
theorem c_cmp_Compare_int64:Contract Try.prog 25 K_cmp_Compare_int64:=contract_of (C:=X_cmp_Compare_int64) (fn:=Try.f25) (tysOk_at (C:=X0) rfl tysOk) (ctxOk_of (P:=Try.prog) ⟨c_cmp_isNaN_int64,trivial⟩) follows Try.func25 b_cmp_Compare_int64 n_cmp_Compare_int64 (fun t ys h=>(e_cmp_Compare_int64 t).trans h)
theorem b_impl_NewCluster_c1:Try.f24.body.isSome=true:=by kernel_rfl
theorem n_impl_NewCluster_c1:(Try.f24.name == "runtime.NumGoroutine")=false:=by kernel_rfl
theorem c_impl_NewCluster_c1:Contract Try.prog 24 K_impl_NewCluster_c1:=contract_of (C:=X_impl_NewCluster_c1) (fn:=Try.f24) (tysOk_at (C:=X0) rfl tysOk) (ctxOk_of (P:=Try.prog) ⟨c_cmp_Compare_int64,trivial⟩) follows Try.func24 b_impl_NewCluster_c1 n_impl_NewCluster_c1 (fun t ys h=>(e_impl_NewCluster_c1 t).trans h)
theorem b_impl_NewCluster:Try.f6.body.isSome=true:=by kernel_rfl
theorem n_impl_NewCluster:(Try.f6.name == "runtime.NumGoroutine")=false:=by kernel_rfl
theorem c_impl_NewCluster:Contract Try.prog 6 K_impl_NewCluster:=contract_of (C:=X_impl_NewCluster) (fn:=Try.f6) (tysOk_at (C:=X0) rfl tysOk) (ctxOk_of (P:=Try.prog) ⟨c_impl_QuorumFault,c_impl_within,c_impl_badFault,c_slices_Clone_Lint64_int64,c_impl_goodKeys,c_slices_SortFunc_Limpl_Voter_impl_Voter,c_impl_NewCluster_c1,trivial⟩) follows Try.func6 b_impl_NewCluster n_impl_NewCluster (fun t ys h=>(e_impl_NewCluster t).trans h)
theorem b_spec_l1In:Try.f28.body.isSome=true:=by kernel_rfl
theorem n_spec_l1In:(Try.f28.name == "runtime.NumGoroutine")=false:=by kernel_rfl
theorem c_spec_l1In:Contract Try.prog 28 K_spec_l1In:=contract_of (C:=X_spec_l1In) (fn:=Try.f28) (tysOk_at (C:=X0) rfl tysOk) (ctxOk_of (P:=Try.prog) trivial) follows Try.func28 b_spec_l1In n_spec_l1In (fun t ys h=>(e_spec_l1In t).trans h)
theorem b_spec_l1Key:Try.f51.body.isSome=true:=by kernel_rfl
theorem n_spec_l1Key:(Try.f51.name == "runtime.NumGoroutine")=false:=by kernel_rfl
theorem c_spec_l1Key:Contract Try.prog 51 K_spec_l1Key:=contract_of (C:=X_spec_l1Key) (fn:=Try.f51) (tysOk_at (C:=X0) rfl tysOk) (ctxOk_of (P:=Try.prog) ⟨c_spec_l1In,trivial⟩) follows Try.func51 b_spec_l1Key n_spec_l1Key (fun t ys h=>(e_spec_l1Key t).trans h)
theorem b_spec_l10Fault:Try.f26.body.isSome=true:=by kernel_rfl
theorem n_spec_l10Fault:(Try.f26.name == "runtime.NumGoroutine")=false:=by kernel_rfl
theorem c_spec_l10Fault:Contract Try.prog 26 K_spec_l10Fault:=contract_of (C:=X_spec_l10Fault) (fn:=Try.f26) (tysOk_at (C:=X0) rfl tysOk) (ctxOk_of (P:=Try.prog) ⟨c_spec_l1In,c_spec_l1Key,trivial⟩) follows Try.func26 b_spec_l10Fault n_spec_l10Fault (fun t ys h=>(e_spec_l10Fault t).trans h)
theorem b_spec_l12Err:Try.f27.body.isSome=true:=by kernel_rfl
theorem n_spec_l12Err:(Try.f27.name == "runtime.NumGoroutine")=false:=by kernel_rfl
theorem c_spec_l12Err:Contract Try.prog 27 K_spec_l12Err:=contract_of (C:=X_spec_l12Err) (fn:=Try.f27) (tysOk_at (C:=X0) rfl tysOk) (ctxOk_of (P:=Try.prog) trivial) follows Try.func27 b_spec_l12Err n_spec_l12Err (fun t ys h=>(e_spec_l12Err t).trans h)
theorem b_spec_l12Bad:Try.f29.body.isSome=true:=by kernel_rfl
theorem n_spec_l12Bad:(Try.f29.name == "runtime.NumGoroutine")=false:=by kernel_rfl
theorem c_spec_l12Bad:Contract Try.prog 29 K_spec_l12Bad:=contract_of (C:=X_spec_l12Bad) (fn:=Try.f29) (tysOk_at (C:=X0) rfl tysOk) (ctxOk_of (P:=Try.prog) ⟨c_spec_l1Key,trivial⟩) follows Try.func29 b_spec_l12Bad n_spec_l12Bad (fun t ys h=>(e_spec_l12Bad t).trans h)
theorem b_spec_l4Among:Try.f52.body.isSome=true:=by kernel_rfl
theorem n_spec_l4Among:(Try.f52.name == "runtime.NumGoroutine")=false:=by kernel_rfl
theorem c_spec_l4Among:Contract Try.prog 52 K_spec_l4Among:=contract_of (C:=X_spec_l4Among) (fn:=Try.f52) (tysOk_at (C:=X0) rfl tysOk) (ctxOk_of (P:=Try.prog) trivial) follows Try.func52 b_spec_l4Among n_spec_l4Among (fun t ys h=>(e_spec_l4Among t).trans h)
theorem b_spec_l12Good:Try.f30.body.isSome=true:=by kernel_rfl
theorem n_spec_l12Good:(Try.f30.name == "runtime.NumGoroutine")=false:=by kernel_rfl
theorem c_spec_l12Good:Contract Try.prog 30 K_spec_l12Good:=contract_of (C:=X_spec_l12Good) (fn:=Try.f30) (tysOk_at (C:=X0) rfl tysOk) (ctxOk_of (P:=Try.prog) ⟨c_spec_l4Among,trivial⟩) follows Try.func30 b_spec_l12Good n_spec_l12Good (fun t ys h=>(e_spec_l12Good t).trans h)
theorem b_spec_NewCluster:Try.f7.body.isSome=true:=by kernel_rfl
theorem n_spec_NewCluster:(Try.f7.name == "runtime.NumGoroutine")=false:=by kernel_rfl
theorem c_spec_NewCluster:Contract Try.prog 7 K_spec_NewCluster:=contract_of (C:=X_spec_NewCluster) (fn:=Try.f7) (tysOk_at (C:=X0) rfl tysOk) (ctxOk_of (P:=Try.prog) ⟨c_spec_l10Fault,c_spec_l12Err,c_spec_l1In,c_spec_l12Bad,c_spec_l12Good,trivial⟩) follows Try.func7 b_spec_NewCluster n_spec_NewCluster (fun t ys h=>(e_spec_NewCluster t).trans h)
theorem b_laws_lwHas:Try.f8.body.isSome=true:=by kernel_rfl
theorem n_laws_lwHas:(Try.f8.name == "runtime.NumGoroutine")=false:=by kernel_rfl
theorem c_laws_lwHas:Contract Try.prog 8 K_laws_lwHas:=contract_of (C:=X_laws_lwHas) (fn:=Try.f8) (tysOk_at (C:=X0) rfl tysOk) (ctxOk_of (P:=Try.prog) trivial) follows Try.func8 b_laws_lwHas n_laws_lwHas (fun t ys h=>(e_laws_lwHas t).trans h)
theorem b_slices_IndexFunc_Limpl_Node_impl_Node:Try.f93.body.isSome=true:=by kernel_rfl
theorem n_slices_IndexFunc_Limpl_Node_impl_Node:(Try.f93.name == "runtime.NumGoroutine")=false:=by kernel_rfl
theorem c_slices_IndexFunc_Limpl_Node_impl_Node:Contract Try.prog 93 K_slices_IndexFunc_Limpl_Node_impl_Node:=contract_of (C:=X_slices_IndexFunc_Limpl_Node_impl_Node) (fn:=Try.f93) (tysOk_at (C:=X0) rfl tysOk) (ctxOk_of (P:=Try.prog) trivial) follows Try.func93 b_slices_IndexFunc_Limpl_Node_impl_Node n_slices_IndexFunc_Limpl_Node_impl_Node (fun t ys h=>(e_slices_IndexFunc_Limpl_Node_impl_Node t).trans h)
theorem b_impl_findNode_c1:Try.f94.body.isSome=true:=by kernel_rfl
theorem n_impl_findNode_c1:(Try.f94.name == "runtime.NumGoroutine")=false:=by kernel_rfl
theorem c_impl_findNode_c1:Contract Try.prog 94 K_impl_findNode_c1:=contract_of (C:=X_impl_findNode_c1) (fn:=Try.f94) (tysOk_at (C:=X0) rfl tysOk) (ctxOk_of (P:=Try.prog) trivial) follows Try.func94 b_impl_findNode_c1 n_impl_findNode_c1 (fun t ys h=>(e_impl_findNode_c1 t).trans h)
theorem b_impl_findNode:Try.f79.body.isSome=true:=by kernel_rfl
theorem n_impl_findNode:(Try.f79.name == "runtime.NumGoroutine")=false:=by kernel_rfl
theorem c_impl_findNode:Contract Try.prog 79 K_impl_findNode:=contract_of (C:=X_impl_findNode) (fn:=Try.f79) (tysOk_at (C:=X0) rfl tysOk) (ctxOk_of (P:=Try.prog) ⟨c_slices_IndexFunc_Limpl_Node_impl_Node,c_impl_findNode_c1,trivial⟩) follows Try.func79 b_impl_findNode n_impl_findNode (fun t ys h=>(e_impl_findNode t).trans h)
theorem b_impl_isId:Try.f80.body.isSome=true:=by kernel_rfl
theorem n_impl_isId:(Try.f80.name == "runtime.NumGoroutine")=false:=by kernel_rfl
theorem c_impl_isId:Contract Try.prog 80 K_impl_isId:=contract_of (C:=X_impl_isId) (fn:=Try.f80) (tysOk_at (C:=X0) rfl tysOk) (ctxOk_of (P:=Try.prog) ⟨c_impl_within,trivial⟩) follows Try.func80 b_impl_isId n_impl_isId (fun t ys h=>(e_impl_isId t).trans h)
theorem b_impl_nodeFault:Try.f54.body.isSome=true:=by kernel_rfl
theorem n_impl_nodeFault:(Try.f54.name == "runtime.NumGoroutine")=false:=by kernel_rfl
theorem c_impl_nodeFault:Contract Try.prog 54 K_impl_nodeFault:=contract_of (C:=X_impl_nodeFault) (fn:=Try.f54) (tysOk_at (C:=X0) rfl tysOk) (ctxOk_of (P:=Try.prog) ⟨c_impl_within,c_impl_findNode,c_impl_isId,trivial⟩) follows Try.func54 b_impl_nodeFault n_impl_nodeFault (fun t ys h=>(e_impl_nodeFault t).trans h)
theorem b_impl_TreeFault:Try.f32.body.isSome=true:=by kernel_rfl
theorem n_impl_TreeFault:(Try.f32.name == "runtime.NumGoroutine")=false:=by kernel_rfl
theorem c_impl_TreeFault:Contract Try.prog 32 K_impl_TreeFault:=contract_of (C:=X_impl_TreeFault) (fn:=Try.f32) (tysOk_at (C:=X0) rfl tysOk) (ctxOk_of (P:=Try.prog) ⟨c_impl_nodeFault,trivial⟩) follows Try.func32 b_impl_TreeFault n_impl_TreeFault (fun t ys h=>(e_impl_TreeFault t).trans h)
theorem b_slices_EqualFunc_Limpl_Voter_Lint64_impl_Voter_int64:Try.f55.body.isSome=true:=by kernel_rfl
theorem n_slices_EqualFunc_Limpl_Voter_Lint64_impl_Voter_int64:(Try.f55.name == "runtime.NumGoroutine")=false:=by kernel_rfl
theorem c_slices_EqualFunc_Limpl_Voter_Lint64_impl_Voter_int64:Contract Try.prog 55 K_slices_EqualFunc_Limpl_Voter_Lint64_impl_Voter_int64:=contract_of (C:=X_slices_EqualFunc_Limpl_Voter_Lint64_impl_Voter_int64) (fn:=Try.f55) (tysOk_at (C:=X0) rfl tysOk) (ctxOk_of (P:=Try.prog) trivial) follows Try.func55 b_slices_EqualFunc_Limpl_Voter_Lint64_impl_Voter_int64 n_slices_EqualFunc_Limpl_Voter_Lint64_impl_Voter_int64 (fun t ys h=>(e_slices_EqualFunc_Limpl_Voter_Lint64_impl_Voter_int64 t).trans h)
theorem b_impl_Cluster_votersFault_c1:Try.f56.body.isSome=true:=by kernel_rfl
theorem n_impl_Cluster_votersFault_c1:(Try.f56.name == "runtime.NumGoroutine")=false:=by kernel_rfl
theorem c_impl_Cluster_votersFault_c1:Contract Try.prog 56 K_impl_Cluster_votersFault_c1:=contract_of (C:=X_impl_Cluster_votersFault_c1) (fn:=Try.f56) (tysOk_at (C:=X0) rfl tysOk) (ctxOk_of (P:=Try.prog) trivial) follows Try.func56 b_impl_Cluster_votersFault_c1 n_impl_Cluster_votersFault_c1 (fun t ys h=>(e_impl_Cluster_votersFault_c1 t).trans h)
theorem b_slices_IndexFunc_Limpl_Choice_impl_Choice:Try.f65.body.isSome=true:=by kernel_rfl
theorem n_slices_IndexFunc_Limpl_Choice_impl_Choice:(Try.f65.name == "runtime.NumGoroutine")=false:=by kernel_rfl
theorem c_slices_IndexFunc_Limpl_Choice_impl_Choice:Contract Try.prog 65 K_slices_IndexFunc_Limpl_Choice_impl_Choice:=contract_of (C:=X_slices_IndexFunc_Limpl_Choice_impl_Choice) (fn:=Try.f65) (tysOk_at (C:=X0) rfl tysOk) (ctxOk_of (P:=Try.prog) trivial) follows Try.func65 b_slices_IndexFunc_Limpl_Choice_impl_Choice n_slices_IndexFunc_Limpl_Choice_impl_Choice (fun t ys h=>(e_slices_IndexFunc_Limpl_Choice_impl_Choice t).trans h)
theorem b_slices_ContainsFunc_Limpl_Choice_impl_Choice:Try.f40.body.isSome=true:=by kernel_rfl
theorem n_slices_ContainsFunc_Limpl_Choice_impl_Choice:(Try.f40.name == "runtime.NumGoroutine")=false:=by kernel_rfl
theorem c_slices_ContainsFunc_Limpl_Choice_impl_Choice:Contract Try.prog 40 K_slices_ContainsFunc_Limpl_Choice_impl_Choice:=contract_of (C:=X_slices_ContainsFunc_Limpl_Choice_impl_Choice) (fn:=Try.f40) (tysOk_at (C:=X0) rfl tysOk) (ctxOk_of (P:=Try.prog) ⟨c_slices_IndexFunc_Limpl_Choice_impl_Choice,trivial⟩) follows Try.func40 b_slices_ContainsFunc_Limpl_Choice_impl_Choice n_slices_ContainsFunc_Limpl_Choice_impl_Choice (fun t ys h=>(e_slices_ContainsFunc_Limpl_Choice_impl_Choice t).trans h)
theorem b_impl_isRef:Try.f81.body.isSome=true:=by kernel_rfl
theorem n_impl_isRef:(Try.f81.name == "runtime.NumGoroutine")=false:=by kernel_rfl
theorem c_impl_isRef:Contract Try.prog 81 K_impl_isRef:=contract_of (C:=X_impl_isRef) (fn:=Try.f81) (tysOk_at (C:=X0) rfl tysOk) (ctxOk_of (P:=Try.prog) ⟨c_impl_within,c_impl_isId,trivial⟩) follows Try.func81 b_impl_isRef n_impl_isRef (fun t ys h=>(e_impl_isRef t).trans h)
theorem b_impl_VoterFault_c1:Try.f82.body.isSome=true:=by kernel_rfl
theorem n_impl_VoterFault_c1:(Try.f82.name == "runtime.NumGoroutine")=false:=by kernel_rfl
theorem c_impl_VoterFault_c1:Contract Try.prog 82 K_impl_VoterFault_c1:=contract_of (C:=X_impl_VoterFault_c1) (fn:=Try.f82) (tysOk_at (C:=X0) rfl tysOk) (ctxOk_of (P:=Try.prog) trivial) follows Try.func82 b_impl_VoterFault_c1 n_impl_VoterFault_c1 (fun t ys h=>(e_impl_VoterFault_c1 t).trans h)
theorem b_impl_VoterFault:Try.f57.body.isSome=true:=by kernel_rfl
theorem n_impl_VoterFault:(Try.f57.name == "runtime.NumGoroutine")=false:=by kernel_rfl
theorem c_impl_VoterFault:Contract Try.prog 57 K_impl_VoterFault:=contract_of (C:=X_impl_VoterFault) (fn:=Try.f57) (tysOk_at (C:=X0) rfl tysOk) (ctxOk_of (P:=Try.prog) ⟨c_impl_within,c_slices_ContainsFunc_Limpl_Choice_impl_Choice,c_impl_isKey,c_impl_isId,c_impl_isRef,c_impl_VoterFault_c1,trivial⟩) follows Try.func57 b_impl_VoterFault n_impl_VoterFault (fun t ys h=>(e_impl_VoterFault t).trans h)
theorem b_impl_Cluster_votersFault:Try.f33.body.isSome=true:=by kernel_rfl
theorem n_impl_Cluster_votersFault:(Try.f33.name == "runtime.NumGoroutine")=false:=by kernel_rfl
theorem c_impl_Cluster_votersFault:Contract Try.prog 33 K_impl_Cluster_votersFault:=contract_of (C:=X_impl_Cluster_votersFault) (fn:=Try.f33) (tysOk_at (C:=X0) rfl tysOk) (ctxOk_of (P:=Try.prog) ⟨c_impl_goodKeys,c_slices_EqualFunc_Limpl_Voter_Lint64_impl_Voter_int64,c_impl_Cluster_votersFault_c1,c_impl_VoterFault,trivial⟩) follows Try.func33 b_impl_Cluster_votersFault n_impl_Cluster_votersFault (fun t ys h=>(e_impl_Cluster_votersFault t).trans h)
theorem b_impl_VoteFault:Try.f58.body.isSome=true:=by kernel_rfl
theorem n_impl_VoteFault:(Try.f58.name == "runtime.NumGoroutine")=false:=by kernel_rfl
theorem c_impl_VoteFault:Contract Try.prog 58 K_impl_VoteFault:=contract_of (C:=X_impl_VoteFault) (fn:=Try.f58) (tysOk_at (C:=X0) rfl tysOk) (ctxOk_of (P:=Try.prog) ⟨c_impl_isKey,c_impl_isId,c_impl_isRef,trivial⟩) follows Try.func58 b_impl_VoteFault n_impl_VoteFault (fun t ys h=>(e_impl_VoteFault t).trans h)
theorem b_slices_Index_Limpl_Vote_impl_Vote:Try.f83.body.isSome=true:=by kernel_rfl
theorem n_slices_Index_Limpl_Vote_impl_Vote:(Try.f83.name == "runtime.NumGoroutine")=false:=by kernel_rfl
theorem c_slices_Index_Limpl_Vote_impl_Vote:Contract Try.prog 83 K_slices_Index_Limpl_Vote_impl_Vote:=contract_of (C:=X_slices_Index_Limpl_Vote_impl_Vote) (fn:=Try.f83) (tysOk_at (C:=X0) rfl tysOk) (ctxOk_of (P:=Try.prog) trivial) follows Try.func83 b_slices_Index_Limpl_Vote_impl_Vote n_slices_Index_Limpl_Vote_impl_Vote (fun t ys h=>(e_slices_Index_Limpl_Vote_impl_Vote t).trans h)
theorem b_slices_Contains_Limpl_Vote_impl_Vote:Try.f59.body.isSome=true:=by kernel_rfl
theorem n_slices_Contains_Limpl_Vote_impl_Vote:(Try.f59.name == "runtime.NumGoroutine")=false:=by kernel_rfl
theorem c_slices_Contains_Limpl_Vote_impl_Vote:Contract Try.prog 59 K_slices_Contains_Limpl_Vote_impl_Vote:=contract_of (C:=X_slices_Contains_Limpl_Vote_impl_Vote) (fn:=Try.f59) (tysOk_at (C:=X0) rfl tysOk) (ctxOk_of (P:=Try.prog) ⟨c_slices_Index_Limpl_Vote_impl_Vote,trivial⟩) follows Try.func59 b_slices_Contains_Limpl_Vote_impl_Vote n_slices_Contains_Limpl_Vote_impl_Vote (fun t ys h=>(e_slices_Contains_Limpl_Vote_impl_Vote t).trans h)
theorem b_slices_Reverse_Lint64_int64:Try.f98.body.isSome=true:=by kernel_rfl
theorem n_slices_Reverse_Lint64_int64:(Try.f98.name == "runtime.NumGoroutine")=false:=by kernel_rfl
theorem c_slices_Reverse_Lint64_int64:Contract Try.prog 98 K_slices_Reverse_Lint64_int64:=reverse_contract ⟨Try.f98,Try.func98,b_slices_Reverse_Lint64_int64,n_slices_Reverse_Lint64_int64⟩ rev_arr rev_empty
theorem b_impl_pathTo:Try.f86.body.isSome=true:=by kernel_rfl
theorem n_impl_pathTo:(Try.f86.name == "runtime.NumGoroutine")=false:=by kernel_rfl
theorem c_impl_pathTo:Contract Try.prog 86 K_impl_pathTo:=contract_of (C:=X_impl_pathTo) (fn:=Try.f86) (tysOk_at (C:=X0) rfl tysOk) (ctxOk_of (P:=Try.prog) ⟨c_impl_findNode,c_slices_Reverse_Lint64_int64,trivial⟩) follows Try.func86 b_impl_pathTo n_impl_pathTo (fun t ys h=>(e_impl_pathTo t).trans h)
theorem b_impl_isAbove:Try.f63.body.isSome=true:=by kernel_rfl
theorem n_impl_isAbove:(Try.f63.name == "runtime.NumGoroutine")=false:=by kernel_rfl
theorem c_impl_isAbove:Contract Try.prog 63 K_impl_isAbove:=contract_of (C:=X_impl_isAbove) (fn:=Try.f63) (tysOk_at (C:=X0) rfl tysOk) (ctxOk_of (P:=Try.prog) ⟨c_slices_Contains_Lint64_int64,c_impl_pathTo,trivial⟩) follows Try.func63 b_impl_isAbove n_impl_isAbove (fun t ys h=>(e_impl_isAbove t).trans h)
theorem b_slices_IndexFunc_Limpl_Voter_impl_Voter:Try.f95.body.isSome=true:=by kernel_rfl
theorem n_slices_IndexFunc_Limpl_Voter_impl_Voter:(Try.f95.name == "runtime.NumGoroutine")=false:=by kernel_rfl
theorem c_slices_IndexFunc_Limpl_Voter_impl_Voter:Contract Try.prog 95 K_slices_IndexFunc_Limpl_Voter_impl_Voter:=contract_of (C:=X_slices_IndexFunc_Limpl_Voter_impl_Voter) (fn:=Try.f95) (tysOk_at (C:=X0) rfl tysOk) (ctxOk_of (P:=Try.prog) trivial) follows Try.func95 b_slices_IndexFunc_Limpl_Voter_impl_Voter n_slices_IndexFunc_Limpl_Voter_impl_Voter (fun t ys h=>(e_slices_IndexFunc_Limpl_Voter_impl_Voter t).trans h)
theorem b_impl_Cluster_findVoter_c1:Try.f96.body.isSome=true:=by kernel_rfl
theorem n_impl_Cluster_findVoter_c1:(Try.f96.name == "runtime.NumGoroutine")=false:=by kernel_rfl
theorem c_impl_Cluster_findVoter_c1:Contract Try.prog 96 K_impl_Cluster_findVoter_c1:=contract_of (C:=X_impl_Cluster_findVoter_c1) (fn:=Try.f96) (tysOk_at (C:=X0) rfl tysOk) (ctxOk_of (P:=Try.prog) trivial) follows Try.func96 b_impl_Cluster_findVoter_c1 n_impl_Cluster_findVoter_c1 (fun t ys h=>(e_impl_Cluster_findVoter_c1 t).trans h)
theorem b_impl_Cluster_findVoter:Try.f84.body.isSome=true:=by kernel_rfl
theorem n_impl_Cluster_findVoter:(Try.f84.name == "runtime.NumGoroutine")=false:=by kernel_rfl
theorem c_impl_Cluster_findVoter:Contract Try.prog 84 K_impl_Cluster_findVoter:=contract_of (C:=X_impl_Cluster_findVoter) (fn:=Try.f84) (tysOk_at (C:=X0) rfl tysOk) (ctxOk_of (P:=Try.prog) ⟨c_slices_IndexFunc_Limpl_Voter_impl_Voter,c_impl_Cluster_findVoter_c1,trivial⟩) follows Try.func84 b_impl_Cluster_findVoter n_impl_Cluster_findVoter (fun t ys h=>(e_impl_Cluster_findVoter t).trans h)
theorem b_impl_Voter_chosen_c1:Try.f97.body.isSome=true:=by kernel_rfl
theorem n_impl_Voter_chosen_c1:(Try.f97.name == "runtime.NumGoroutine")=false:=by kernel_rfl
theorem c_impl_Voter_chosen_c1:Contract Try.prog 97 K_impl_Voter_chosen_c1:=contract_of (C:=X_impl_Voter_chosen_c1) (fn:=Try.f97) (tysOk_at (C:=X0) rfl tysOk) (ctxOk_of (P:=Try.prog) trivial) follows Try.func97 b_impl_Voter_chosen_c1 n_impl_Voter_chosen_c1 (fun t ys h=>(e_impl_Voter_chosen_c1 t).trans h)
theorem b_impl_Voter_chosen:Try.f85.body.isSome=true:=by kernel_rfl
theorem n_impl_Voter_chosen:(Try.f85.name == "runtime.NumGoroutine")=false:=by kernel_rfl
theorem c_impl_Voter_chosen:Contract Try.prog 85 K_impl_Voter_chosen:=contract_of (C:=X_impl_Voter_chosen) (fn:=Try.f85) (tysOk_at (C:=X0) rfl tysOk) (ctxOk_of (P:=Try.prog) ⟨c_slices_IndexFunc_Limpl_Choice_impl_Choice,c_impl_Voter_chosen_c1,trivial⟩) follows Try.func85 b_impl_Voter_chosen n_impl_Voter_chosen (fun t ys h=>(e_impl_Voter_chosen t).trans h)
theorem b_impl_Cluster_isVoted:Try.f60.body.isSome=true:=by kernel_rfl
theorem n_impl_Cluster_isVoted:(Try.f60.name == "runtime.NumGoroutine")=false:=by kernel_rfl
theorem c_impl_Cluster_isVoted:Contract Try.prog 60 K_impl_Cluster_isVoted:=contract_of (C:=X_impl_Cluster_isVoted) (fn:=Try.f60) (tysOk_at (C:=X0) rfl tysOk) (ctxOk_of (P:=Try.prog) ⟨c_impl_isAbove,c_impl_Cluster_findVoter,c_impl_Voter_chosen,trivial⟩) follows Try.func60 b_impl_Cluster_isVoted n_impl_Cluster_isVoted (fun t ys h=>(e_impl_Cluster_isVoted t).trans h)
theorem b_impl_Cluster_votesFault:Try.f34.body.isSome=true:=by kernel_rfl
theorem n_impl_Cluster_votesFault:(Try.f34.name == "runtime.NumGoroutine")=false:=by kernel_rfl
theorem c_impl_Cluster_votesFault:Contract Try.prog 34 K_impl_Cluster_votesFault:=contract_of (C:=X_impl_Cluster_votesFault) (fn:=Try.f34) (tysOk_at (C:=X0) rfl tysOk) (ctxOk_of (P:=Try.prog) ⟨c_slices_Contains_Lint64_int64,c_impl_VoteFault,c_slices_Contains_Limpl_Vote_impl_Vote,c_impl_Cluster_isVoted,trivial⟩) follows Try.func34 b_impl_Cluster_votesFault n_impl_Cluster_votesFault (fun t ys h=>(e_impl_Cluster_votesFault t).trans h)
theorem b_impl_Cluster_heardFault_c1:Try.f61.body.isSome=true:=by kernel_rfl
theorem n_impl_Cluster_heardFault_c1:(Try.f61.name == "runtime.NumGoroutine")=false:=by kernel_rfl
theorem c_impl_Cluster_heardFault_c1:Contract Try.prog 61 K_impl_Cluster_heardFault_c1:=contract_of (C:=X_impl_Cluster_heardFault_c1) (fn:=Try.f61) (tysOk_at (C:=X0) rfl tysOk) (ctxOk_of (P:=Try.prog) ⟨c_impl_within,trivial⟩) follows Try.func61 b_impl_Cluster_heardFault_c1 n_impl_Cluster_heardFault_c1 (fun t ys h=>(e_impl_Cluster_heardFault_c1 t).trans h)
theorem b_impl_Cluster_heardFault:Try.f35.body.isSome=true:=by kernel_rfl
theorem n_impl_Cluster_heardFault:(Try.f35.name == "runtime.NumGoroutine")=false:=by kernel_rfl
theorem c_impl_Cluster_heardFault:Contract Try.prog 35 K_impl_Cluster_heardFault:=contract_of (C:=X_impl_Cluster_heardFault) (fn:=Try.f35) (tysOk_at (C:=X0) rfl tysOk) (ctxOk_of (P:=Try.prog) ⟨c_slices_ContainsFunc_Lint64_int64,c_slices_Contains_Lint64_int64,c_impl_Cluster_heardFault_c1,trivial⟩) follows Try.func35 b_impl_Cluster_heardFault n_impl_Cluster_heardFault (fun t ys h=>(e_impl_Cluster_heardFault t).trans h)
theorem b_impl_ClusterFault:Try.f10.body.isSome=true:=by kernel_rfl
theorem n_impl_ClusterFault:(Try.f10.name == "runtime.NumGoroutine")=false:=by kernel_rfl
theorem c_impl_ClusterFault:Contract Try.prog 10 K_impl_ClusterFault:=contract_of (C:=X_impl_ClusterFault) (fn:=Try.f10) (tysOk_at (C:=X0) rfl tysOk) (ctxOk_of (P:=Try.prog) ⟨c_impl_QuorumFault,c_impl_within,c_impl_badFault,c_impl_TreeFault,c_impl_Cluster_votersFault,c_impl_Cluster_votesFault,c_impl_Cluster_heardFault,trivial⟩) follows Try.func10 b_impl_ClusterFault n_impl_ClusterFault (fun t ys h=>(e_impl_ClusterFault t).trans h)
theorem b_impl_countFor:Try.f53.body.isSome=true:=by kernel_rfl
theorem n_impl_countFor:(Try.f53.name == "runtime.NumGoroutine")=false:=by kernel_rfl
theorem c_impl_countFor:Contract Try.prog 53 K_impl_countFor:=contract_of (C:=X_impl_countFor) (fn:=Try.f53) (tysOk_at (C:=X0) rfl tysOk) (ctxOk_of (P:=Try.prog) ⟨c_slices_Contains_Limpl_Vote_impl_Vote,trivial⟩) follows Try.func53 b_impl_countFor n_impl_countFor (fun t ys h=>(e_impl_countFor t).trans h)
theorem b_impl_Cluster_lockedBy:Try.f31.body.isSome=true:=by kernel_rfl
theorem n_impl_Cluster_lockedBy:(Try.f31.name == "runtime.NumGoroutine")=false:=by kernel_rfl
theorem c_impl_Cluster_lockedBy:Contract Try.prog 31 K_impl_Cluster_lockedBy:=contract_of (C:=X_impl_Cluster_lockedBy) (fn:=Try.f31) (tysOk_at (C:=X0) rfl tysOk) (ctxOk_of (P:=Try.prog) ⟨c_impl_countFor,trivial⟩) follows Try.func31 b_impl_Cluster_lockedBy n_impl_Cluster_lockedBy (fun t ys h=>(e_impl_Cluster_lockedBy t).trans h)
theorem b_impl_LockedBlocks:Try.f9.body.isSome=true:=by kernel_rfl
theorem n_impl_LockedBlocks:(Try.f9.name == "runtime.NumGoroutine")=false:=by kernel_rfl
theorem c_impl_LockedBlocks:Contract Try.prog 9 K_impl_LockedBlocks:=contract_of (C:=X_impl_LockedBlocks) (fn:=Try.f9) (tysOk_at (C:=X0) rfl tysOk) (ctxOk_of (P:=Try.prog) ⟨c_impl_ClusterFault,c_impl_Cluster_lockedBy,trivial⟩) follows Try.func9 b_impl_LockedBlocks n_impl_LockedBlocks (fun t ys h=>(e_impl_LockedBlocks t).trans h)
theorem b_impl_related:Try.f38.body.isSome=true:=by kernel_rfl
theorem n_impl_related:(Try.f38.name == "runtime.NumGoroutine")=false:=by kernel_rfl
theorem c_impl_related:Contract Try.prog 38 K_impl_related:=contract_of (C:=X_impl_related) (fn:=Try.f38) (tysOk_at (C:=X0) rfl tysOk) (ctxOk_of (P:=Try.prog) ⟨c_impl_isAbove,trivial⟩) follows Try.func38 b_impl_related n_impl_related (fun t ys h=>(e_impl_related t).trans h)
theorem b_impl_NoFork_c1:Try.f37.body.isSome=true:=by kernel_rfl
theorem n_impl_NoFork_c1:(Try.f37.name == "runtime.NumGoroutine")=false:=by kernel_rfl
theorem c_impl_NoFork_c1:Contract Try.prog 37 K_impl_NoFork_c1:=contract_of (C:=X_impl_NoFork_c1) (fn:=Try.f37) (tysOk_at (C:=X0) rfl tysOk) (ctxOk_of (P:=Try.prog) ⟨c_impl_related,trivial⟩) follows Try.func37 b_impl_NoFork_c1 n_impl_NoFork_c1 (fun t ys h=>(e_impl_NoFork_c1 t).trans h)
theorem b_impl_NoFork:Try.f11.body.isSome=true:=by kernel_rfl
theorem n_impl_NoFork:(Try.f11.name == "runtime.NumGoroutine")=false:=by kernel_rfl
theorem c_impl_NoFork:Contract Try.prog 11 K_impl_NoFork:=contract_of (C:=X_impl_NoFork) (fn:=Try.f11) (tysOk_at (C:=X0) rfl tysOk) (ctxOk_of (P:=Try.prog) ⟨c_impl_LockedBlocks,c_slices_ContainsFunc_Lint64_int64,c_impl_NoFork_c1,trivial⟩) follows Try.func11 b_impl_NoFork n_impl_NoFork (fun t ys h=>(e_impl_NoFork t).trans h)
theorem b_slices_Index_Limpl_Choice_impl_Choice:Try.f87.body.isSome=true:=by kernel_rfl
theorem n_slices_Index_Limpl_Choice_impl_Choice:(Try.f87.name == "runtime.NumGoroutine")=false:=by kernel_rfl
theorem c_slices_Index_Limpl_Choice_impl_Choice:Contract Try.prog 87 K_slices_Index_Limpl_Choice_impl_Choice:=contract_of (C:=X_slices_Index_Limpl_Choice_impl_Choice) (fn:=Try.f87) (tysOk_at (C:=X0) rfl tysOk) (ctxOk_of (P:=Try.prog) trivial) follows Try.func87 b_slices_Index_Limpl_Choice_impl_Choice n_slices_Index_Limpl_Choice_impl_Choice (fun t ys h=>(e_slices_Index_Limpl_Choice_impl_Choice t).trans h)
theorem b_slices_Contains_Limpl_Choice_impl_Choice:Try.f64.body.isSome=true:=by kernel_rfl
theorem n_slices_Contains_Limpl_Choice_impl_Choice:(Try.f64.name == "runtime.NumGoroutine")=false:=by kernel_rfl
theorem c_slices_Contains_Limpl_Choice_impl_Choice:Contract Try.prog 64 K_slices_Contains_Limpl_Choice_impl_Choice:=contract_of (C:=X_slices_Contains_Limpl_Choice_impl_Choice) (fn:=Try.f64) (tysOk_at (C:=X0) rfl tysOk) (ctxOk_of (P:=Try.prog) ⟨c_slices_Index_Limpl_Choice_impl_Choice,trivial⟩) follows Try.func64 b_slices_Contains_Limpl_Choice_impl_Choice n_slices_Contains_Limpl_Choice_impl_Choice (fun t ys h=>(e_slices_Contains_Limpl_Choice_impl_Choice t).trans h)
theorem b_impl_LockedCoins:Try.f39.body.isSome=true:=by kernel_rfl
theorem n_impl_LockedCoins:(Try.f39.name == "runtime.NumGoroutine")=false:=by kernel_rfl
theorem c_impl_LockedCoins:Contract Try.prog 39 K_impl_LockedCoins:=contract_of (C:=X_impl_LockedCoins) (fn:=Try.f39) (tysOk_at (C:=X0) rfl tysOk) (ctxOk_of (P:=Try.prog) ⟨c_impl_ClusterFault,c_impl_countFor,c_slices_Contains_Limpl_Choice_impl_Choice,trivial⟩) follows Try.func39 b_impl_LockedCoins n_impl_LockedCoins (fun t ys h=>(e_impl_LockedCoins t).trans h)
theorem b_impl_NoDouble_c1:Try.f41.body.isSome=true:=by kernel_rfl
theorem n_impl_NoDouble_c1:(Try.f41.name == "runtime.NumGoroutine")=false:=by kernel_rfl
theorem c_impl_NoDouble_c1:Contract Try.prog 41 K_impl_NoDouble_c1:=contract_of (C:=X_impl_NoDouble_c1) (fn:=Try.f41) (tysOk_at (C:=X0) rfl tysOk) (ctxOk_of (P:=Try.prog) trivial) follows Try.func41 b_impl_NoDouble_c1 n_impl_NoDouble_c1 (fun t ys h=>(e_impl_NoDouble_c1 t).trans h)
theorem b_impl_NoDouble:Try.f12.body.isSome=true:=by kernel_rfl
theorem n_impl_NoDouble:(Try.f12.name == "runtime.NumGoroutine")=false:=by kernel_rfl
theorem c_impl_NoDouble:Contract Try.prog 12 K_impl_NoDouble:=contract_of (C:=X_impl_NoDouble) (fn:=Try.f12) (tysOk_at (C:=X0) rfl tysOk) (ctxOk_of (P:=Try.prog) ⟨c_impl_LockedCoins,c_slices_ContainsFunc_Limpl_Choice_impl_Choice,c_impl_NoDouble_c1,trivial⟩) follows Try.func12 b_impl_NoDouble n_impl_NoDouble (fun t ys h=>(e_impl_NoDouble t).trans h)
theorem b_laws_FnNewClusters:Try.f3.body.isSome=true:=by kernel_rfl
theorem n_laws_FnNewClusters:(Try.f3.name == "runtime.NumGoroutine")=false:=by kernel_rfl
theorem c_laws_FnNewClusters:Contract Try.prog 3 K_laws_FnNewClusters:=contract_of (C:=X_laws_FnNewClusters) (fn:=Try.f3) (tysOk_at (C:=X0) rfl tysOk) (ctxOk_of (P:=Try.prog) ⟨c_laws_lwBig,c_spec_DrawNewCluster,c_impl_NewCluster,c_spec_NewCluster,c_laws_lwHas,c_impl_LockedBlocks,c_impl_ClusterFault,c_impl_NoFork,c_impl_NoDouble,trivial⟩) follows Try.func3 b_laws_FnNewClusters n_laws_FnNewClusters (fun t ys h=>(e_laws_FnNewClusters t).trans h)
end CL
end Go.Dx

