/- What a form of the table has, as one test. -/
import Derived.Test.YtgepgbbjfhggfaaGreatDoorLibH
set_option linter.unusedVariables false
set_option maxRecDepth 100000
namespace Go.Proofs.YtgepgbbjfhggfaaGreatDoor.code
open Go.Ab
def QH7 (f:Fm):Bool:=
 (Y5 f.op) &&
 (decide (f.shapes.length<=4∧f.slots.length=f.shapes.length)) &&
 (decide ((0<=f.pre∧f.pre<=5)∧(0<=f.map∧f.map<=3)∧(0<=f.code∧f.code<=255)∧(-1<=f.digit∧f.digit<=7))) &&
 (((List.range f.slots.length).all λi=>QfZ (f.shapes.getD i 0) (f.slots.getD i 0)&&(decide (f.slots.getD i 0=6)||decide (Qn f.slots (f.slots.getD i 0)=i)))) &&
 (decide (if f.vex=true then ¬f.map=0∧¬f.pre=3∧¬f.pre=5∧(-1<=f.w∧f.w<=1)∧(0<=f.l∧f.l<=1) else(0<=f.w∧f.w<=1)∧f.l=0∧Qn f.slots 3<0∧Qn f.slots 7<0)) &&
 (decide (if 0<=Qn f.slots 4 then Qn f.slots 1<0∧Qn f.slots 2<0∧f.digit<0 else if 0<=Qn f.slots 2 then(0<=Qn f.slots 1↔f.digit<0) else Qn f.slots 1<0∧f.digit<0)) &&
 (decide ((0<=Qn f.slots 4->f.code % 8=0∧¬ (f.map=0∧(f.code=64∨f.code=72)))∧(¬f.map=0∨(¬f.code=15∧¬ (64<=f.code∧f.code<=79)∧¬f.code=102∧¬f.code=196∧¬f.code=197∧¬f.code=242∧¬f.code=243))))
theorem QGj {f:Fm}(h:QH7 f=true):Chk f:=by
 unfold QH7 at h;simp only[Lm]at h;obtain⟨⟨⟨⟨⟨⟨h1,h2⟩,h3⟩,h4⟩,h5⟩,h6⟩,h7⟩:=h;refine⟨h1,Lg h2,Lg h3,λi hi=>?_,Lg h5,Lg h6,Lg h7⟩;have h:=Li.1 h4 i (LU.2 hi);simp only[Lm,Nw,Lv]at h;exact h
end Go.Proofs.YtgepgbbjfhggfaaGreatDoor.code
