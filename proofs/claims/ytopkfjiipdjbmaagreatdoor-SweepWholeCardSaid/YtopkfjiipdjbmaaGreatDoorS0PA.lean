import Derived.Test.YtopkfjiipdjbmaaGreatDoorLibS
set_option linter.defProp false
set_option maxRecDepth 100000
namespace Go.Proofs.YtopkfjiipdjbmaaGreatDoor.tab
open Go.Ab
def Qz4:YU (xknown xt) Qvy=true:=by kernel_rfl
def Qz5:YU (xknown xt) Qvz=true:=by kernel_rfl
def Qz6:YU (xknown xt) QvA=true:=by kernel_rfl
def Qz7:YU (xknown xt) QvB=true:=by kernel_rfl
def Qz8:YU (kn1) QvC=true:=by kernel_rfl
def Qz9:YU (kn2) QvD=true:=by kernel_rfl
def QAa:YU (kn2) QvE=true:=by kernel_rfl
def QAb:YU (kn2) QvF=true:=by kernel_rfl
def QAc:YU (kn2) QvG=true:=by kernel_rfl
def QAd:YU (kn2) QvH=true:=by kernel_rfl
def QAe:YU (kn2) QvI=true:=by kernel_rfl
def QAf:YU (kn2) QvJ=true:=by kernel_rfl
def QAg:YU (kn2) QvK=true:=by kernel_rfl
