/- What some closed calls give, seen. -/
import Derived.Test.YtbkbdnlfkahaaaaGreatDoorS0Sums
set_option maxRecDepth 100000
namespace Go.Proofs.YtbkbdnlfkahaaaaGreatDoor.tab
open Go.Ab
theorem Qcy:Qh (xknown xt) V8=true:=by kernel_rfl
theorem Qcz:Qh (xknown xt) V9=true:=by kernel_rfl
theorem QcA:Qh (xknown xt) Qaa=true:=by kernel_rfl
theorem QcB:Qh (xknown xt) Qab=true:=by kernel_rfl
theorem QcC:Qh (kn1) Qac=true:=by kernel_rfl
theorem QcD:Qh (kn2) Qad=true:=by kernel_rfl
theorem QcE:Qh (kn2) Qae=true:=by kernel_rfl
theorem QcF:Qh (kn2) Qaf=true:=by kernel_rfl
theorem QcG:Qh (kn2) Qag=true:=by kernel_rfl
theorem QcH:Qh (kn2) Qah=true:=by kernel_rfl
theorem QcI:Qh (kn2) Qai=true:=by kernel_rfl
theorem QcJ:Qh (kn2) Qaj=true:=by kernel_rfl
theorem QcK:Qh (kn2) Qak=true:=by kernel_rfl
end Go.Proofs.YtbkbdnlfkahaaaaGreatDoor.tab
