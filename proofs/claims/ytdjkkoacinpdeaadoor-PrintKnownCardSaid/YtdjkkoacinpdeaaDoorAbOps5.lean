/- A string's bytes as a new slice. -/
import Derived.Test.YtdjkkoacinpdeaaDoorAbFn
import Derived.Lib.ConvBytes
set_option linter.unusedVariables false
namespace Go.Ab
section
variable {P : Program} {n : Nat} {A : Env} {H : Heap} {d : Option Nat} {ty : TypeId} {pos : String} {af : Array Edge} {g : Option (Nat × Bool)}

theorem bytesWorld_alloc (w : World) (e : TypeId) (s : ByteArray) : Lib.bytesWorld w e s = w.drew.alloc (.cells (Lib.bytesCells w e s) e ((Lib.bytesCells w e s).size, (Lib.bytesCells w e s).size + 1)) := by
  simp only [Lib.bytesWorld, World.freeze, World.alloc, World.drew]
  simp only [Nat.succ_ne_zero, if_false]
  congr 1
  apply Array.ext
  · simp
  · intro i h1 h2
    simp only [Array.size_modify, Array.size_push] at h1
    by_cases hi : i = w.heap.size
    · subst hi
      rw [Array.getElem_modify_self]
      simp
    · rw [Array.getElem_modify_of_ne (by omega)]
      rw [Array.getElem_push_lt (by omega), Array.getElem_push_lt (by omega)]

theorem od_toBytes {src dst e : TypeId} {x : Operand} {s : ByteArray} {u : TypeDesc} {inf : TypeInfo} {z : Value} (h1 : P.underlying src = some u) (h2 : P.underlying dst = some (.slice e)) (h3 : P.underlying e = some (.int .u8))
    (hok : ElemOk P e inf z) (hsz : inf.size = 1) (ex : ev A x = .string s) (hl : (bl s).length ≤ 140737488355328) :
    OpDoes P ⟨d, .convert src dst x, ty, pos, af, g⟩ A H (.slice (some ⟨H.next, 0, none⟩) (bl s).length (UNK + 1)) (H.push (.cells (bytesOf s) e false)) :=
  .of_run fun ρ w a hs he => by
    have e1 := evalP (he x (by simp [Op.operands])) ex rfl
    have hr := Lib.run_convert_string_bytes (P := P) w src dst e s h1 h2 h3
    have hsize : s.size = (bl s).length := rfl
    have hge := grownCap_ge w s.size 0 e
    have hle := grownCap_le_maxLen w s.size 0 e (by simp only [maxLen]; omega)
    have hbl : (bytesOf s).length = (bl s).length := by simp [bytesOf, bl]
    have hcs : (Lib.bytesCells w e s).size = grownCap w s.size 0 e := by
      simp only [Lib.bytesCells, Array.size_append, Array.size_map, Array.size_replicate]
      have : s.data.size = s.size := rfl
      omega
    have hlist : (Lib.bytesCells w e s).toList = bytesOf s ++ List.replicate (grownCap w s.size 0 e - s.size) (.int .u8 0) := by
      simp [Lib.bytesCells, bytesOf]
    rw [bytesWorld_alloc] at hr
    obtain ⟨s1, s2⟩ := hs.drew
    let i : Info := ⟨⟨w.heap.size, 0, none⟩, grownCap w s.size 0 e, P.cellsOf e⟩
    have hb : BlkRel P (ext ρ H.next i) i (w.drew.alloc (.cells (Lib.bytesCells w e s) e ((Lib.bytesCells w e s).size, (Lib.bytesCells w e s).size + 1))) (.cells (bytesOf s) e false) := by
      refine ⟨_, _, heap_alloc_new w.drew _, ⟨rfl, rfl⟩, by simp only [i]; rw [hcs]; simp, by simp only [i]; omega, fun j v hj => ⟨v, ?_, .same v ?_⟩, fun o _ ho hh => by omega, fun k v hk hkv => ?_, rfl⟩
      · simp only [i, Nat.zero_add]
        rw [← Array.getElem?_toList, hlist, List.getElem?_append_left (List.getElem?_eq_some_iff.1 hj).1]
        exact hj
      · have := List.mem_of_getElem? hj
        simp only [bytesOf, List.mem_map] at this
        obtain ⟨b, _, rfl⟩ := this
        rfl
      · simp only [i, Nat.zero_add] at hk
        rw [← Array.getElem?_toList, hlist, List.getElem?_append_right hk, List.getElem?_replicate] at hkv
        split at hkv
        · cases hkv; exact fun _ => ⟨0, rfl, by omega, by omega⟩
        · cases hkv
    obtain ⟨t1, t2⟩ := s2.push _ (.cells (bytesOf s) e false) i rfl hb
    refine ⟨.slice (some ⟨w.heap.size, 0, none⟩) s.size (grownCap w s.size 0 e), _, _, ?_, ?_, s1.trans t1, t2⟩
    · simp only [execOp, e1, Sem.run_bind, hr, Result.andThen_ok, Sem.run_pure]
    · refine .slice H.next 0 _ _ _ i _ (ext_same _ _ _) (.inl (by rw [add_lit])) hge (by simp only [maxLen, UNK] at *; omega) (fun _ => ?_) (fun h => by simp only [UNK] at h; omega)
      simp only [i, Nat.zero_add]
      rw [hok.cellsOf, hsz]
      exact ⟨by simp only [UNK], by omega⟩
end
end Go.Ab
