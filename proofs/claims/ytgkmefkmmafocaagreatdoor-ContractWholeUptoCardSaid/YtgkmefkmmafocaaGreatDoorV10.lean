import Derived.Test.YtgkmefkmmafocaaGreatDoorV9
import Derived.Test.YtgkmefkmmafocaaGreatDoorRows
set_option maxRecDepth 100000
set_option maxHeartbeats 2000000
set_option linter.unusedVariables false
set_option linter.unusedSimpArgs false
namespace Go.Proofs.YtgkmefkmmafocaaGreatDoor
open Go Go.Ab Go.RowKit Go.ChangeShapes Go.WideShapes Go.ChangeAt
variable {ax:bK}
theorem F8 {H:Type}(l:List (DataW H)):Rows.uptoBulkAll l=(l.map Rows.uptoBulk).sum:=by
 induction l with
 | nil=>rfl
 | cons x r b=>simp only [Rows.uptoBulkAll,List.map_cons,List.sum_cons,b]
theorem N3 {H:Type}:u0 (H:=H) Rows.uptoBulk:=by
 refine⟨fun d=>?_,fun b=>by simp [Rows.uptoBulk],fun e s=>by simp only [Rows.uptoBulk,F8]; omega,fun l=>by simp only [Rows.uptoBulk,F8]; omega⟩;cases d with
 | lit l=>cases l<;>simp [Rows.uptoBulk]
 | nil=>simp [Rows.uptoBulk]
 | ptr d=>simp [Rows.uptoBulk]
 | slice f spare=>simp [Rows.uptoBulk]
 | agg parts=>simp [Rows.uptoBulk]
 | iface t d=>simp [Rows.uptoBulk]
 | map entries=>simp [Rows.uptoBulk]
 | held h=>simp [Rows.uptoBulk]
theorem own:ownKnob Tryz.prog.godebug=none:=by kernel_rfl
theorem laid:laidOutB Tryz.prog=true:=by kernel_rfl
theorem N4 {H:Type}{l:List (DataW H)}(hk:Rows.uptoSmall H l=true):Rows.uptoBulkAll l<=1048576:=oD hk
theorem table {W:World}(h:laidMet Tryz.prog Rows.contractWholeUptoRow.laid W):∃u b,W.heap[0]?=some (.cells (Lib.pow10Tab.map fun z=>Value.int .u64 z).toArray u b) :=
 Nj (P:=Tryz.prog) (name := "internal/strconv.uint64pow10") (g:=0) (t:=205) (e:=198) (n:=20) (by kernel_rfl) (by kernel_rfl) (by kernel_rfl) (by kernel_rfl) (by kernel_rfl) (by kernel_rfl) h
  (by rw [show (Lib.tabData .u64 Lib.pow10Tab:DataW Unit)=Rows.laid_internal_strconv_uint64pow10 from(by kernel_rfl)]; exact .tail _ (.tail _ (.head _)))
theorem N5 (u:TypeId) (b:Nat×Nat):fU Tryz.prog (.fix 0 (.cells (Lib.pow10Tab.map fun z=>Value.int .u64 z).toArray u b)):=.of (by kernel_rfl)
theorem N6 (a:ak) (f:a.sz<=1048576) (g:a.wf) (u:TypeId) (b:Nat×Nat):AC Tryz.prog 3 [.agg a.c] (eF 0 (.cells (Lib.pow10Tab.map fun z=>Value.int .u64 z).toArray u b)) fun r h'=>r=.a (.d (.bool true))/\h'=eF 0 (.cells (Lib.pow10Tab.map fun z=>Value.int .u64 z).toArray u b) :=
 N7 (by rw [N8]; exact N9 g f) _ (gT:=0) rfl (N5 u b)
end Go.Proofs.YtgkmefkmmafocaaGreatDoor
