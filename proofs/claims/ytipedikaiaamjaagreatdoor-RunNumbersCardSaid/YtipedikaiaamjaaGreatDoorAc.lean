/- The contract of errors.As holds. -/
import Derived.Test.YtipedikaiaamjaaGreatDoorOa
import Derived.Test.YtipedikaiaamjaaGreatDoorAb
set_option linter.unusedVariables false
set_option maxRecDepth 20000
set_option maxHeartbeats 4000000
namespace Go.Eng
open Go.Proofs
theorem junk4 {C : Ctx} {ρ : Rho} {s : St} {w : World} (hI : Inv C ρ s w) (a b c d : Obj) : Ext C ρ s w ρ s ((((w.alloc a).alloc b).alloc c).alloc d) := by
  have h1 := Ext.junk hI a
  have h2 := h1.trans (Ext.junk h1.inv b)
  have h3 := h2.trans (Ext.junk h2.inv c)
  exact h3.trans (Ext.junk h3.inv d)
theorem ovAs_ok : OverOk ctx 3 42 (ovAs 175 139 137) := by
  intro ρ s w args cargs R hI hG hA h
  unfold ovAs at h
  split at h
  · rename_i a b i j c p
    split at h
    · rename_i hac
      simp only [Bool.and_eq_true, Nat.beq_eq] at hac
      obtain ⟨rfl, rfl⟩ := hac
      split at h
      · rename_i t v hld
        split at h
        · rename_i n
          split at h
          · rename_i ht
            rw [Nat.beq_eq] at ht
            subst ht
            split at h
            · rename_i s' hst
              obtain ⟨x, y, rfl, hx, hy⟩ := hA.two
              cases hx with
              | iface hp =>
                cases hy with
                | iface hq =>
                  cases hp with
                  | ptr hl =>
                    rename_i l
                    obtain ⟨ad, vs, e1, e2, e3, e4, e5, e6⟩ := loadCells_spec hI (.ptr (i := i) (j := j + 1) hl) hld
                    obtain ⟨cv, g1, g2⟩ := e5 0 _ rfl
                    cases g2 with
                    | iface g3 =>
                      cases g3 with
                      | int =>
                        have hs := e6 0 _ g1
                        cases e1
                        have hs' : w.cell? ⟨l.c, l.base + i * l.sz + j + 1, none⟩ = some (.iface 137 (.int .i64 n)) := by
                          rw [← hs]; simp [Addr.add, Nat.add_assoc]
                        obtain ⟨-, ty, fr, hg⟩ := hG.more
                        have hg' : w.cell? ⟨1, 0, none⟩ = some (.iface 237 (.agg #[.pointer (some ⟨13, 135, none⟩)])) := by
                          rw [cell_of_heap (hI.imm _ _ hg)]; rfl
                        have hx := fun a b c d => junk4 hI a b c d
                        have ht : tyOf ctx.P 137 = some (1, false) := by kernel_rfl
                        have e1 : ∀ xs, (callFunc 42 xs).run ctx.P w = .ok (.enter 42 xs) w := fun xs => enters_of Tryz.func42 (by kernel_rfl) rfl xs w
                        rw [e1]
                        obtain ⟨ta, w', rfl, -, -⟩ := store_spec hI ht hq (.int .i64 n) hst
                        have hj := junk4 hI (.cells #[.pointer (some ta)] 139) (.cells #[.pointer (some ⟨13, 139, none⟩), .pointer (some ⟨w.heap.size, 0, none⟩), .int .u64 150] 184) (.cells #[.pointer (some ⟨13, 139, none⟩), .pointer (some ⟨w.heap.size, 0, none⟩), .int .u64 150] 184) (.cells #[.int .i64 n] 137)
                        obtain ⟨ta', w2, ee, k1, k2⟩ := store_spec hj.inv ht hq (.int .i64 n) hst
                        cases ee
                        refine Calls.mono (AsRun.as38 l.c (l.base + i * l.sz + j) ta n w w2 hg' hs' (fun W hW => by rw [hW]; exact k1)) ?_
                        rintro e w'' ⟨rfl, rfl⟩
                        exact ⟨ρ, .bool true, s', h, .bool true, hj.trans k2⟩
            · exact h.elim
          · exact h.elim
        · exact h.elim
      · exact h.elim
    · exact h.elim
  · exact h.elim
end Go.Eng
