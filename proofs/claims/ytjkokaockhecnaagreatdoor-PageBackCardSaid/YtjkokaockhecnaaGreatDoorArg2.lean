/- What a row's bounds say of the arguments, in the machine's words; no condition. -/
import Derived.Test.YtjkokaockhecnaaGreatDoorRows
import Derived.Test.YtjkokaockhecnaaGreatDoorArg
import Derived.SizedLaws
namespace Go.Proofs.YtjkokaockhecnaaGreatDoorA
open Go Go.Proofs.YtjkokaockhecnaaGreatDoor
theorem counts {H:Type}:sN (H:=H) Rows.uptoBulk Rows.uptoBulkAll:=by
 refine ⟨fun d=>?_,fun l=>by simp [Rows.uptoBulk],fun es sp=>by simp [Rows.uptoBulk],by simp [Rows.uptoBulkAll],fun d l=>by simp [Rows.uptoBulkAll]⟩
 cases d with
 |lit l=>cases l<;>simp [Rows.uptoBulk]
 |nil=>simp [Rows.uptoBulk]
 |ptr d=>simp [Rows.uptoBulk]
 |slice elems spare=>simp [Rows.uptoBulk]
 |agg parts=>simp [Rows.uptoBulk]
 |iface t d=>simp [Rows.uptoBulk]
 |map entries=>simp [Rows.uptoBulk]
 |held h=>simp [Rows.uptoBulk]
theorem i64_wf {n:Int}(h:(Lit.int .i64 n).wf=true):-9223372036854775808≤n∧n≤9223372036854775807:=by
 simpa [Lit.wf,IntKind.min,IntKind.max,IntKind.signed,IntKind.bits] using h
end Go.Proofs.YtjkokaockhecnaaGreatDoorA
