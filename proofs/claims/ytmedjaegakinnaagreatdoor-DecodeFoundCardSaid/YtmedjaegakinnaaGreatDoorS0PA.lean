/- What some closed calls give, seen. -/
import Derived.Test.YtmedjaegakinnaaGreatDoorLibS
set_option linter.defProp false
set_option maxRecDepth 100000
namespace Go.Proofs.YtmedjaegakinnaaGreatDoor.tab
open Go.Ab
def Qyv:YZ (xknown xt) Qun=true:=by kernel_rfl
def Qyw:YZ (xknown xt) Quo=true:=by kernel_rfl
def Qyx:YZ (xknown xt) Qup=true:=by kernel_rfl
def Qyy:YZ (xknown xt) Quq=true:=by kernel_rfl
def Qyz:YZ (kn1) Qur=true:=by kernel_rfl
def QyA:YZ (kn2) Qus=true:=by kernel_rfl
def QyB:YZ (kn2) Qut=true:=by kernel_rfl
def QyC:YZ (kn2) Quu=true:=by kernel_rfl
def QyD:YZ (kn2) Quv=true:=by kernel_rfl
def QyE:YZ (kn2) Quw=true:=by kernel_rfl
def QyF:YZ (kn2) Qux=true:=by kernel_rfl
def QyG:YZ (kn2) Quy=true:=by kernel_rfl
def QyH:YZ (kn2) Quz=true:=by kernel_rfl
