import PyProof.Rows.All
import Wide.All
import OpenK.AllK
import Wide.FinOn
import HandS.ForMost
import HandS.Defaults
import HandS.Wide
import HandS.IsInst
import HandS.Flow
import HandS.Style
import HandS.SortInts
import HandS.WideBits
import HandS.Star
import PyProof.ReprRoads
import HandS.Zip
import HandS.Sort
import HandS.Conv
import PyProof.ReprLen
import PySem.Challenge.RW_filledup_k59_whole_harmonic_bricks_of_gr
set_option Elab.async false
set_option linter.all false
set_option maxRecDepth 100000
/-! values as trees, owned and shared nodes, what a heap holds of them -/
namespace VL
open PySem PySem.Spec PyProof.Rows L2

inductive D where
  | non | bl (b : Bool) | int (i : Int) | str (x : Str)
  | lst (o : Bool) (xs : List D)
  | tup (xs : List D)
  | dic (o : Bool) (ks : List Key) (xs : List D)
  | hnd (o : HO)
  | nod (o : HO)
  | ndt (ws : List V)
  | scr (ns : List Int)
  | junk

mutual
def frz : D → D
  | .lst _ xs => .lst false (frzL xs)
  | .tup xs => .tup (frzL xs)
  | .dic _ ks xs => .dic false ks (frzL xs)
  | .hnd _ => .junk
  | d => d
def frzL : List D → List D
  | [] => []
  | d :: ds => frz d :: frzL ds
end
mutual
/-- as a pure piece of work sees it -/
def vwD : D → D
  | .lst true xs => .lst false (frzL xs)
  | .lst false xs => .lst false xs
  | .tup xs => .tup (vwDL xs)
  | .dic true ks xs => .dic false ks (frzL xs)
  | .dic false ks xs => .dic false ks xs
  | .hnd _ => .junk
  | d => d
def vwDL : List D → List D
  | [] => []
  | d :: ds => vwD d :: vwDL ds
end
mutual
/-- shared -/
def isFz : D → Bool
  | .lst o _ => !o
  | .tup xs => isFzL xs
  | .dic o _ _ => !o
  | .hnd _ => false
  | _ => true
def isFzL : List D → Bool
  | [] => true
  | d :: ds => isFz d && isFzL ds
end
mutual
/-- shared all through -/
def fzA : D → Bool
  | .lst o xs => !o && fzAL xs
  | .tup xs => fzAL xs
  | .dic o _ xs => !o && fzAL xs
  | .hnd _ => false
  | .junk => false
  | _ => true
def fzAL : List D → Bool
  | [] => true
  | d :: ds => fzA d && fzAL ds
end
mutual
/-- no shared list or dict in it -/
def allOwn : D → Bool
  | .lst o xs => o && allOwnL xs
  | .tup xs => allOwnL xs
  | .dic o _ xs => o && allOwnL xs
  | .hnd _ => false
  | .nod _ => false
  | .ndt _ => false
  | .scr _ => false
  | .junk => false
  | _ => true
def allOwnL : List D → Bool
  | [] => true
  | d :: ds => allOwn d && allOwnL ds
end
/-- can be frozen or read: no junk, no open node -/
def real : D → Bool
  | .junk => false
  | .hnd _ => false
  | _ => true
mutual
def realA : D → Bool
  | .lst _ xs => realL xs
  | .tup xs => realL xs
  | .dic _ _ xs => realL xs
  | .hnd _ => false
  | .junk => false
  | _ => true
def realL : List D → Bool
  | [] => true
  | d :: ds => realA d && realL ds
end

def isMutHO : HO → Bool
  | .lst _ => true
  | .dK _ => true
  | _ => false

mutual
def Rl (K : PySem.W.Frag) (B H : Hp) : D → V → List Addr → Prop
  | .non, v, f => v = .non ∧ f = []
  | .bl b, v, f => v = .bl b ∧ f = []
  | .int i, v, f => v = .int i ∧ f = []
  | .str x, v, f => v = .str x ∧ f = []
  | .lst o xs, v, f => ∃ p vs g, v = .ref p ∧ RlL K B H xs vs g ∧ ((o = true ∧ H p = some (.lst vs) ∧ f = p :: g) ∨ (o = false ∧ B p = some (.lst vs) ∧ g = [] ∧ f = []))
  | .tup xs, v, f => ∃ p vs, v = .ref p ∧ SqT K H p vs ∧ RlL K B H xs vs f
  | .dic o ks xs, v, f => ∃ p vs g, v = .ref p ∧ RlL K B H xs vs g ∧ ks.length = vs.length ∧ ((o = true ∧ H p = some (.dK (ks.zip vs)) ∧ f = p :: g) ∨ (o = false ∧ B p = some (.dK (ks.zip vs)) ∧ g = [] ∧ f = []))
  | .hnd o, v, f => ∃ p, v = .ref p ∧ H p = some o ∧ isMutHO o = true ∧ f = [p]
  | .nod o, v, f => ∃ p, v = .ref p ∧ B p = some o ∧ f = []
  | .ndt ws, v, f => ∃ p, v = .ref p ∧ SqT K H p ws ∧ f = []
  | .scr ns, v, f => ∃ p, v = .ref p ∧ SqL K B p (ns.map V.int) ∧ f = []
  | .junk, _, f => f = []
def RlL (K : PySem.W.Frag) (B H : Hp) : List D → List V → List Addr → Prop
  | [], vs, f => vs = [] ∧ f = []
  | d :: ds, vs, f => ∃ v r g h, vs = v :: r ∧ f = g ++ h ∧ Rl K B H d v g ∧ RlL K B H ds r h
end

section
variable {K : PySem.W.Frag} {B B' H H' : Hp}
def TSame (K : PySem.W.Frag) (H H' : Hp) : Prop := ∀ p vs, SqT K H p vs → SqT K H' p vs
theorem TSame.same (h : Same H H') : TSame K H H' := fun p vs q => by
  rcases q with (q | ⟨o, q⟩) | q
  · exact .inl (.inl (h _ _ q))
  · exact .inl (.inr ⟨o, h _ _ q⟩)
  · exact .inr q
theorem sqT_upd {p q : Addr} {vs : List V} {o o' : HO} (h : SqT K H p vs) (hq : H q = some o) (hm : isMutHO o = true) : SqT K (upd H q o') p vs := by
  rcases h with (h | ⟨u, h⟩) | h
  · exact .inl (.inl (by rw [upd_ne]; exact h; exact ne_of h hq (by rintro rfl; cases hm)))
  · exact .inl (.inr ⟨u, by rw [upd_ne]; exact h; exact ne_of h hq (by rintro rfl; cases hm)⟩)
  · exact .inr h
theorem TSame.upd {q : Addr} {o o' : HO} (hq : H q = some o) (hm : isMutHO o = true) : TSame K H (upd H q o') := fun _ _ h => sqT_upd h hq hm

mutual
theorem Rl.mono (hB : Same B B') (hT : TSame K H H') : ∀ (d : D) (v : V) (f : List Addr), (∀ p ∈ f, ∀ o, H p = some o → H' p = some o) → Rl K B H d v f → Rl K B' H' d v f
  | .non, _, _, _, h => h
  | .bl _, _, _, _, h => h
  | .int _, _, _, _, h => h
  | .str _, _, _, _, h => h
  | .lst o xs, v, f, hf, h => by
    obtain ⟨p, vs, g, e, hl, hc⟩ := h
    rcases hc with ⟨eo, hp, ef⟩ | ⟨eo, hp, eg, ef⟩
    · subst ef
      exact ⟨p, vs, g, e, RlL.mono hB hT xs vs g (fun q hq => hf q (List.mem_cons_of_mem _ hq)) hl, .inl ⟨eo, hf p List.mem_cons_self _ hp, rfl⟩⟩
    · subst eg
      exact ⟨p, vs, [], e, RlL.mono hB hT xs vs [] (fun q hq => by cases hq) hl, .inr ⟨eo, hB _ _ hp, rfl, ef⟩⟩
  | .tup xs, v, f, hf, h => by
    obtain ⟨p, vs, e, ht, hl⟩ := h
    exact ⟨p, vs, e, hT _ _ ht, RlL.mono hB hT xs vs f hf hl⟩
  | .dic o ks xs, v, f, hf, h => by
    obtain ⟨p, vs, g, e, hl, hn, hc⟩ := h
    rcases hc with ⟨eo, hp, ef⟩ | ⟨eo, hp, eg, ef⟩
    · subst ef
      exact ⟨p, vs, g, e, RlL.mono hB hT xs vs g (fun q hq => hf q (List.mem_cons_of_mem _ hq)) hl, hn, .inl ⟨eo, hf p List.mem_cons_self _ hp, rfl⟩⟩
    · subst eg
      exact ⟨p, vs, [], e, RlL.mono hB hT xs vs [] (fun q hq => by cases hq) hl, hn, .inr ⟨eo, hB _ _ hp, rfl, ef⟩⟩
  | .hnd o, v, f, hf, h => by
    obtain ⟨p, e, hp, hm, ef⟩ := h
    subst ef
    exact ⟨p, e, hf p List.mem_cons_self _ hp, hm, rfl⟩
  | .nod o, v, f, hf, h => by
    obtain ⟨p, e, hp, ef⟩ := h
    exact ⟨p, e, hB _ _ hp, ef⟩
  | .ndt ws, v, f, hf, h => by
    obtain ⟨p, e, hp, ef⟩ := h
    exact ⟨p, e, hT _ _ hp, ef⟩
  | .scr ns, v, f, hf, h => by
    obtain ⟨p, e, hp, ef⟩ := h
    exact ⟨p, e, hB.seq hp, ef⟩
  | .junk, _, _, _, h => h
theorem RlL.mono (hB : Same B B') (hT : TSame K H H') : ∀ (ds : List D) (vs : List V) (f : List Addr), (∀ p ∈ f, ∀ o, H p = some o → H' p = some o) → RlL K B H ds vs f → RlL K B' H' ds vs f
  | [], _, _, _, h => h
  | d :: ds, vs, f, hf, h => by
    obtain ⟨v, r, g, h', e, ef, h1, h2⟩ := h
    subst ef
    exact ⟨v, r, g, h', e, rfl, Rl.mono hB hT d v g (fun q hq => hf q (List.mem_append_left _ hq)) h1, RlL.mono hB hT ds r h' (fun q hq => hf q (List.mem_append_right _ hq)) h2⟩
end
theorem RlL.length : ∀ {ds : List D} {vs : List V} {f : List Addr}, RlL K B H ds vs f → ds.length = vs.length
  | [], _, _, h => by obtain ⟨rfl, _⟩ := h; rfl
  | d :: ds, vs, f, h => by
    obtain ⟨v, r, g, h', rfl, ef, h1, h2⟩ := h
    simp [RlL.length h2]

mutual
/-- freezing: the owned nodes come to the base -/
theorem Rl.freeze (hB : Same B B') : ∀ (d : D) (v : V) (f : List Addr), (∀ p ∈ f, ∀ o, H p = some o → B' p = some o) → Rl K B H d v f → Rl K B' H (frz d) v []
  | .non, _, _, _, h => ⟨h.1, rfl⟩
  | .bl _, _, _, _, h => ⟨h.1, rfl⟩
  | .int _, _, _, _, h => ⟨h.1, rfl⟩
  | .str _, _, _, _, h => ⟨h.1, rfl⟩
  | .lst o xs, v, f, hf, h => by
    obtain ⟨p, vs, g, e, hl, hc⟩ := h
    rcases hc with ⟨eo, hp, ef⟩ | ⟨eo, hp, eg, ef⟩
    · subst ef
      exact ⟨p, vs, [], e, RlL.freeze hB xs vs g (fun q hq => hf q (List.mem_cons_of_mem _ hq)) hl, .inr ⟨rfl, hf p List.mem_cons_self _ hp, rfl, rfl⟩⟩
    · subst eg
      exact ⟨p, vs, [], e, RlL.freeze hB xs vs [] (fun q hq => by cases hq) hl, .inr ⟨rfl, hB _ _ hp, rfl, rfl⟩⟩
  | .tup xs, v, f, hf, h => by
    obtain ⟨p, vs, e, ht, hl⟩ := h
    exact ⟨p, vs, e, ht, RlL.freeze hB xs vs f hf hl⟩
  | .dic o ks xs, v, f, hf, h => by
    obtain ⟨p, vs, g, e, hl, hn, hc⟩ := h
    rcases hc with ⟨eo, hp, ef⟩ | ⟨eo, hp, eg, ef⟩
    · subst ef
      exact ⟨p, vs, [], e, RlL.freeze hB xs vs g (fun q hq => hf q (List.mem_cons_of_mem _ hq)) hl, hn, .inr ⟨rfl, hf p List.mem_cons_self _ hp, rfl, rfl⟩⟩
    · subst eg
      exact ⟨p, vs, [], e, RlL.freeze hB xs vs [] (fun q hq => by cases hq) hl, hn, .inr ⟨rfl, hB _ _ hp, rfl, rfl⟩⟩
  | .nod o, v, f, _, h => by
    obtain ⟨p, e, hp, ef⟩ := h
    exact ⟨p, e, hB _ _ hp, rfl⟩
  | .ndt ws, v, f, _, h => by
    obtain ⟨p, e, hp, ef⟩ := h
    exact ⟨p, e, hp, rfl⟩
  | .scr ns, v, f, _, h => by
    obtain ⟨p, e, hp, ef⟩ := h
    exact ⟨p, e, hB.seq hp, rfl⟩
  | .hnd _, _, _, _, _ => rfl
  | .junk, _, _, _, _ => rfl
theorem RlL.freeze (hB : Same B B') : ∀ (ds : List D) (vs : List V) (f : List Addr), (∀ p ∈ f, ∀ o, H p = some o → B' p = some o) → RlL K B H ds vs f → RlL K B' H (frzL ds) vs []
  | [], _, _, _, h => ⟨h.1, rfl⟩
  | d :: ds, vs, f, hf, h => by
    obtain ⟨v, r, g, h', e, ef, h1, h2⟩ := h
    subst ef
    exact ⟨v, r, [], [], e, rfl, Rl.freeze hB d v g (fun q hq => hf q (List.mem_append_left _ hq)) h1, RlL.freeze hB ds r h' (fun q hq => hf q (List.mem_append_right _ hq)) h2⟩
end
mutual
theorem Rl.tracked : ∀ (d : D) (v : V) (f : List Addr), Rl K B H d v f → ∀ p ∈ f, ∃ o, H p = some o
  | .non, _, _, h => by rw [h.2]; intro p hp; cases hp
  | .bl _, _, _, h => by rw [h.2]; intro p hp; cases hp
  | .int _, _, _, h => by rw [h.2]; intro p hp; cases hp
  | .str _, _, _, h => by rw [h.2]; intro p hp; cases hp
  | .lst o xs, v, f, h => by
    obtain ⟨p, vs, g, e, hl, hc⟩ := h
    rcases hc with ⟨eo, hp, ef⟩ | ⟨eo, hp, eg, ef⟩
    · subst ef
      intro q hq
      rcases List.mem_cons.mp hq with rfl | hq
      · exact ⟨_, hp⟩
      · exact RlL.tracked xs vs g hl q hq
    · subst ef; intro p hp; cases hp
  | .tup xs, v, f, h => by
    obtain ⟨p, vs, e, ht, hl⟩ := h
    exact RlL.tracked xs vs f hl
  | .dic o ks xs, v, f, h => by
    obtain ⟨p, vs, g, e, hl, hn, hc⟩ := h
    rcases hc with ⟨eo, hp, ef⟩ | ⟨eo, hp, eg, ef⟩
    · subst ef
      intro q hq
      rcases List.mem_cons.mp hq with rfl | hq
      · exact ⟨_, hp⟩
      · exact RlL.tracked xs vs g hl q hq
    · subst ef; intro p hp; cases hp
  | .hnd o, v, f, h => by
    obtain ⟨p, e, hp, hm, ef⟩ := h
    subst ef
    intro q hq
    rcases List.mem_cons.mp hq with rfl | hq
    · exact ⟨_, hp⟩
    · cases hq
  | .nod o, v, f, h => by
    obtain ⟨p, e, hp, ef⟩ := h
    subst ef; intro p hp; cases hp
  | .ndt ws, v, f, h => by
    obtain ⟨p, e, hp, ef⟩ := h
    subst ef; intro p hp; cases hp
  | .scr ns, v, f, h => by
    obtain ⟨p, e, hp, ef⟩ := h
    subst ef; intro p hp; cases hp
  | .junk, _, f, h => by
    have e : f = [] := h
    subst e; intro p hp; cases hp
theorem RlL.tracked : ∀ (ds : List D) (vs : List V) (f : List Addr), RlL K B H ds vs f → ∀ p ∈ f, ∃ o, H p = some o
  | [], _, _, h => by rw [h.2]; intro p hp; cases hp
  | d :: ds, vs, f, h => by
    obtain ⟨v, r, g, h', e, ef, h1, h2⟩ := h
    subst ef
    intro q hq
    rcases List.mem_append.mp hq with hq | hq
    · exact Rl.tracked d v g h1 q hq
    · exact RlL.tracked ds r h' h2 q hq
end
mutual
/-- what owns all its lists leans on no base -/
theorem Rl.rebase {B2 : Hp} : ∀ (d : D) (v : V) (f : List Addr), allOwn d = true → Rl K B H d v f → Rl K B2 H d v f
  | .non, _, _, _, h => h
  | .bl _, _, _, _, h => h
  | .int _, _, _, _, h => h
  | .str _, _, _, _, h => h
  | .lst o xs, v, f, ho, h => by
    have ho' : o = true ∧ allOwnL xs = true := by simpa [allOwn] using ho
    obtain ⟨p, vs, g, e, hl, hc⟩ := h
    rcases hc with ⟨eo, hp, ef⟩ | ⟨eo, hp, eg, ef⟩
    · exact ⟨p, vs, g, e, RlL.rebase xs vs g ho'.2 hl, .inl ⟨eo, hp, ef⟩⟩
    · rw [ho'.1] at eo; cases eo
  | .tup xs, v, f, ho, h => by
    obtain ⟨p, vs, e, ht, hl⟩ := h
    exact ⟨p, vs, e, ht, RlL.rebase xs vs f ho hl⟩
  | .dic o ks xs, v, f, ho, h => by
    have ho' : o = true ∧ allOwnL xs = true := by simpa [allOwn] using ho
    obtain ⟨p, vs, g, e, hl, hn, hc⟩ := h
    rcases hc with ⟨eo, hp, ef⟩ | ⟨eo, hp, eg, ef⟩
    · exact ⟨p, vs, g, e, RlL.rebase xs vs g ho'.2 hl, hn, .inl ⟨eo, hp, ef⟩⟩
    · rw [ho'.1] at eo; cases eo
  | .hnd o, v, f, ho, h => by cases ho
  | .nod o, v, f, ho, h => by cases ho
  | .ndt o, v, f, ho, h => by cases ho
  | .scr ns, v, f, ho, h => by cases ho
  | .junk, _, f, ho, h => by cases ho
theorem RlL.rebase {B2 : Hp} : ∀ (ds : List D) (vs : List V) (f : List Addr), allOwnL ds = true → RlL K B H ds vs f → RlL K B2 H ds vs f
  | [], _, _, _, h => h
  | d :: ds, vs, f, ho, h => by
    have ho' : allOwn d = true ∧ allOwnL ds = true := by simpa [allOwnL] using ho
    obtain ⟨v, r, g, h', e, ef, h1, h2⟩ := h
    exact ⟨v, r, g, h', e, ef, Rl.rebase d v g ho'.1 h1, RlL.rebase ds r h' ho'.2 h2⟩
end
mutual
theorem Rl.fz_nil : ∀ (d : D) (v : V) (f : List Addr), isFz d = true → Rl K B H d v f → f = []
  | .non, _, _, _, h => h.2
  | .bl _, _, _, _, h => h.2
  | .int _, _, _, _, h => h.2
  | .str _, _, _, _, h => h.2
  | .lst o xs, v, f, ho, h => by
    have ho' : o = false := by simpa [isFz] using ho
    obtain ⟨p, vs, g, e, hl, hc⟩ := h
    rcases hc with ⟨eo, hp, ef⟩ | ⟨eo, hp, eg, ef⟩
    · rw [ho'] at eo; cases eo
    · exact ef
  | .tup xs, v, f, ho, h => by
    obtain ⟨p, vs, e, ht, hl⟩ := h
    exact RlL.fz_nil xs vs f ho hl
  | .dic o ks xs, v, f, ho, h => by
    have ho' : o = false := by simpa [isFz] using ho
    obtain ⟨p, vs, g, e, hl, hn, hc⟩ := h
    rcases hc with ⟨eo, hp, ef⟩ | ⟨eo, hp, eg, ef⟩
    · rw [ho'] at eo; cases eo
    · exact ef
  | .hnd o, v, f, ho, h => by cases ho
  | .nod o, v, f, ho, h => by obtain ⟨p, e, hp, ef⟩ := h; exact ef
  | .ndt o, v, f, ho, h => by obtain ⟨p, e, hp, ef⟩ := h; exact ef
  | .scr ns, v, f, ho, h => by obtain ⟨p, e, hp, ef⟩ := h; exact ef
  | .junk, _, f, ho, h => h
theorem RlL.fz_nil : ∀ (ds : List D) (vs : List V) (f : List Addr), isFzL ds = true → RlL K B H ds vs f → f = []
  | [], _, _, _, h => h.2
  | d :: ds, vs, f, ho, h => by
    have ho' : isFz d = true ∧ isFzL ds = true := by simpa [isFzL] using ho
    obtain ⟨v, r, g, h', e, ef, h1, h2⟩ := h
    rw [ef, Rl.fz_nil d v g ho'.1 h1, RlL.fz_nil ds r h' ho'.2 h2]; rfl
end
mutual
theorem frz_fzA : ∀ d : D, fzA d = true → frz d = d
  | .non, _ => rfl
  | .bl _, _ => rfl
  | .int _, _ => rfl
  | .str _, _ => rfl
  | .lst o xs, h => by
    have h' : o = false ∧ fzAL xs = true := by simpa [fzA] using h
    simp [frz, frzL_fzA xs h'.2, h'.1]
  | .tup xs, h => by simp [frz, frzL_fzA xs h]
  | .dic o ks xs, h => by
    have h' : o = false ∧ fzAL xs = true := by simpa [fzA] using h
    simp [frz, frzL_fzA xs h'.2, h'.1]
  | .hnd _, h => by cases h
  | .nod _, _ => rfl
  | .ndt _, _ => rfl
  | .scr _, _ => rfl
  | .junk, h => by cases h
theorem frzL_fzA : ∀ ds : List D, fzAL ds = true → frzL ds = ds
  | [], _ => rfl
  | d :: ds, h => by
    have h' : fzA d = true ∧ fzAL ds = true := by simpa [fzAL] using h
    simp [frzL, frz_fzA d h'.1, frzL_fzA ds h'.2]
end
mutual
theorem fz_fzA : ∀ d : D, fzA d = true → isFz d = true
  | .non, _ => rfl
  | .bl _, _ => rfl
  | .int _, _ => rfl
  | .str _, _ => rfl
  | .lst o xs, h => by
    have h' : o = false ∧ fzAL xs = true := by simpa [fzA] using h
    simp [isFz, h'.1]
  | .tup xs, h => by simp [isFz, fzL_fzA xs h]
  | .dic o ks xs, h => by
    have h' : o = false ∧ fzAL xs = true := by simpa [fzA] using h
    simp [isFz, h'.1]
  | .hnd _, h => by cases h
  | .nod _, _ => rfl
  | .ndt _, _ => rfl
  | .scr _, _ => rfl
  | .junk, h => by cases h
theorem fzL_fzA : ∀ ds : List D, fzAL ds = true → isFzL ds = true
  | [], _ => rfl
  | d :: ds, h => by
    have h' : fzA d = true ∧ fzAL ds = true := by simpa [fzAL] using h
    simp [isFzL, fz_fzA d h'.1, fzL_fzA ds h'.2]
end
mutual
theorem vwD_fz : ∀ d : D, isFz d = true → vwD d = d
  | .non, _ => rfl
  | .bl _, _ => rfl
  | .int _, _ => rfl
  | .str _, _ => rfl
  | .lst true xs, h => by cases h
  | .lst false xs, h => rfl
  | .tup xs, h => by simp only [vwD, vwDL_fz xs h]
  | .dic true _ xs, h => by cases h
  | .dic false _ xs, h => rfl
  | .hnd _, h => by cases h
  | .nod _, _ => rfl
  | .ndt _, _ => rfl
  | .scr _, _ => rfl
  | .junk, _ => rfl
theorem vwDL_fz : ∀ ds : List D, isFzL ds = true → vwDL ds = ds
  | [], _ => rfl
  | d :: ds, h => by
    have h' : isFz d = true ∧ isFzL ds = true := by simpa [isFzL] using h
    simp only [vwDL, vwD_fz d h'.1, vwDL_fz ds h'.2]
end
theorem fzAL_all : ∀ ds : List D, fzAL ds = ds.all fzA
  | [] => rfl
  | d :: ds => by simp [fzAL, fzAL_all ds]
theorem frzL_map : ∀ ds : List D, frzL ds = ds.map frz
  | [] => rfl
  | d :: ds => by simp [frzL, frzL_map ds]
theorem isFzL_all : ∀ ds : List D, isFzL ds = ds.all isFz
  | [] => rfl
  | d :: ds => by simp [isFzL, isFzL_all ds]
theorem allOwnL_all : ∀ ds : List D, allOwnL ds = ds.all allOwn
  | [] => rfl
  | d :: ds => by simp [allOwnL, allOwnL_all ds]
theorem realL_all : ∀ ds : List D, realL ds = ds.all realA
  | [] => rfl
  | d :: ds => by simp [realL, realL_all ds]
mutual
theorem real_own : ∀ d : D, allOwn d = true → realA d = true
  | .non, _ => rfl
  | .bl _, _ => rfl
  | .int _, _ => rfl
  | .str _, _ => rfl
  | .lst o xs, h => by
    have h' : o = true ∧ allOwnL xs = true := by simpa [allOwn] using h
    exact realL_own xs h'.2
  | .tup xs, h => realL_own xs h
  | .dic o ks xs, h => by
    have h' : o = true ∧ allOwnL xs = true := by simpa [allOwn] using h
    exact realL_own xs h'.2
  | .hnd _, h => by cases h
  | .nod _, h => by cases h
  | .ndt _, h => by cases h
  | .scr _, h => by cases h
  | .junk, h => by cases h
theorem realL_own : ∀ ds : List D, allOwnL ds = true → realL ds = true
  | [], _ => rfl
  | d :: ds, h => by
    have h' : allOwn d = true ∧ allOwnL ds = true := by simpa [allOwnL] using h
    simp [realL, real_own d h'.1, realL_own ds h'.2]
end
end
end VL
/-! entries side by side -/
namespace VL
open PySem PySem.Spec PyProof.Rows L2

abbrev En := D × Option V
section
variable {K : PySem.W.Frag} {B B' H H' H0 : Hp}

def Ro (K : PySem.W.Frag) (B H : Hp) (e : En) (f : List Addr) : Prop := (e.1 = .junk ∧ f = []) ∨ ∃ v, e.2 = some v ∧ Rl K B H e.1 v f
def RlS (K : PySem.W.Frag) (B H : Hp) : List En → List Addr → Prop
  | [], f => f = []
  | e :: es, f => ∃ g h, f = g ++ h ∧ Ro K B H e g ∧ RlS K B H es h

theorem Ro.mono {e : En} {f : List Addr} (hB : Same B B') (hT : TSame K H H') (hf : ∀ p ∈ f, ∀ o, H p = some o → H' p = some o) (h : Ro K B H e f) : Ro K B' H' e f := by
  rcases h with h | ⟨v, e1, h⟩
  · exact .inl h
  · exact .inr ⟨v, e1, Rl.mono hB hT _ _ _ hf h⟩
theorem RlS.mono (hB : Same B B') (hT : TSame K H H') : ∀ {es : List En} {f : List Addr}, (∀ p ∈ f, ∀ o, H p = some o → H' p = some o) → RlS K B H es f → RlS K B' H' es f
  | [], _, _, h => h
  | e :: es, f, hf, h => by
    obtain ⟨g, h', rfl, h1, h2⟩ := h
    exact ⟨g, h', rfl, h1.mono hB hT (fun q hq => hf q (List.mem_append_left _ hq)), RlS.mono hB hT (fun q hq => hf q (List.mem_append_right _ hq)) h2⟩
theorem Ro.tracked {e : En} {f : List Addr} (h : Ro K B H e f) : ∀ p ∈ f, ∃ o, H p = some o := by
  rcases h with ⟨_, rfl⟩ | ⟨v, e1, h⟩
  · intro p hp; cases hp
  · exact Rl.tracked _ _ _ h
theorem RlS.tracked : ∀ {es : List En} {f : List Addr}, RlS K B H es f → ∀ p ∈ f, ∃ o, H p = some o
  | [], f, h => by
    have e : f = [] := h
    subst e; intro p hp; cases hp
  | e :: es, f, h => by
    obtain ⟨g, h', rfl, h1, h2⟩ := h
    intro q hq
    rcases List.mem_append.mp hq with hq | hq
    · exact h1.tracked q hq
    · exact RlS.tracked h2 q hq
theorem RlS.append : ∀ {a b : List En} {f : List Addr}, RlS K B H (a ++ b) f ↔ ∃ g h, f = g ++ h ∧ RlS K B H a g ∧ RlS K B H b h
  | [], b, f => ⟨fun h => ⟨[], f, rfl, rfl, h⟩, fun ⟨g, h, e, h1, h2⟩ => by
      have e1 : g = [] := h1
      subst e1; subst e; exact h2⟩
  | x :: a, b, f => by
    constructor
    · rintro ⟨g, h, rfl, h1, h2⟩
      obtain ⟨g2, h3, rfl, h4, h5⟩ := RlS.append.mp h2
      exact ⟨g ++ g2, h3, by rw [List.append_assoc], ⟨g, g2, rfl, h1, h4⟩, h5⟩
    · rintro ⟨g, h, rfl, ⟨g1, g2, rfl, h1, h2⟩, h3⟩
      exact ⟨g1, g2 ++ h, by rw [List.append_assoc], h1, RlS.append.mpr ⟨g2, h, rfl, h2, h3⟩⟩
theorem RlS.perm {a b : List En} (p : a.Perm b) : ∀ {f : List Addr}, RlS K B H a f → ∃ g, f.Perm g ∧ RlS K B H b g := by
  induction p with
  | nil => exact fun h => ⟨_, .refl _, h⟩
  | cons x _ ih =>
    rintro f ⟨g, h, rfl, h1, h2⟩
    obtain ⟨h', p', r⟩ := ih h2
    exact ⟨g ++ h', p'.append_left g, g, h', rfl, h1, r⟩
  | swap x y l =>
    rintro f ⟨g, h, rfl, h1, g2, h2, rfl, h3, h4⟩
    refine ⟨g2 ++ (g ++ h2), ?_, g2, g ++ h2, rfl, h3, g, h2, rfl, h1, h4⟩
    rw [← List.append_assoc, ← List.append_assoc]
    exact List.perm_append_comm.append_right _
  | trans _ _ ih1 ih2 =>
    intro f h
    obtain ⟨g, p1, h1⟩ := ih1 h
    obtain ⟨g', p2, h2⟩ := ih2 h1
    exact ⟨g', p1.trans p2, h2⟩
/-- lists of values as entries -/
def ens (ds : List D) (vs : List V) : List En := ds.zip (vs.map some)
theorem rlS_of_L : ∀ {ds : List D} {vs : List V} {f : List Addr}, RlL K B H ds vs f → RlS K B H (ens ds vs) f
  | [], vs, f, h => by
    obtain ⟨rfl, rfl⟩ := h
    exact rfl
  | d :: ds, vs, f, h => by
    obtain ⟨v, r, g, h', rfl, rfl, h1, h2⟩ := h
    exact ⟨g, h', rfl, .inr ⟨v, rfl, h1⟩, rlS_of_L h2⟩
theorem rlL_of_S : ∀ {ds : List D} {vs : List V} {f : List Addr}, ds.length = vs.length → RlS K B H (ens ds vs) f → RlL K B H ds vs f
  | [], [], f, _, h => ⟨rfl, h⟩
  | [], _ :: _, _, e, _ => by cases e
  | _ :: _, [], _, e, _ => by cases e
  | d :: ds, v :: vs, f, e, h => by
    obtain ⟨g, h', rfl, h1, h2⟩ := h
    refine ⟨v, vs, g, h', rfl, rfl, ?_, rlL_of_S (by simpa using e) h2⟩
    rcases h1 with ⟨e1, e2⟩ | ⟨w, e1, h1⟩
    · have e1' : d = .junk := e1
      subst e1'; subst e2; exact rfl
    · have e1' : v = w := Option.some.inj e1
      subst e1'; exact h1
theorem ens_cons (d : D) (ds : List D) (v : V) (vs : List V) : ens (d :: ds) (v :: vs) = (d, some v) :: ens ds vs := rfl
theorem ens_append {a b : List D} {u v : List V} (h : a.length = u.length) : ens (a ++ b) (u ++ v) = ens a u ++ ens b v := by
  unfold ens
  rw [List.map_append, List.zip_append (by simpa using h)]

/-- H0: what is surely kept; the entries' owned nodes stand apart, outside the base -/
def Sep (K : PySem.W.Frag) (H0 H : Hp) (es : List En) : Prop := ∃ (B : Hp) (f : List Addr), Same H0 B ∧ Same B H ∧ RlS K B H es f ∧ f.Nodup ∧ ∀ p ∈ f, B p = none

theorem Sep.floor {es : List En} (h : Sep K H0 H es) : Same H0 H := by
  obtain ⟨B, f, h0, hB, _⟩ := h
  exact h0.trans hB
theorem Sep.lower {H1 : Hp} {es : List En} (h : Sep K H1 H es) (a : Same H0 H1) : Sep K H0 H es := by
  obtain ⟨B, f, h0, q⟩ := h
  exact ⟨B, f, a.trans h0, q⟩
theorem Sep.mono {es : List En} (h : Sep K H0 H es) (s : Same H H') : Sep K H0 H' es := by
  obtain ⟨B, f, h0, hB, r, nd, hn⟩ := h
  exact ⟨B, f, h0, hB.trans s, r.mono (fun _ _ e => e) (TSame.same s) (fun p _ o e => s p o e), nd, hn⟩
theorem Sep.perm {a b : List En} (h : Sep K H0 H a) (p : a.Perm b) : Sep K H0 H b := by
  obtain ⟨B, f, h0, hB, r, nd, hn⟩ := h
  obtain ⟨g, pg, r'⟩ := r.perm p
  exact ⟨B, g, h0, hB, r', pg.nodup_iff.mp nd, fun q hq => hn q (pg.mem_iff.mpr hq)⟩
theorem Sep.dropR {a b : List En} (h : Sep K H0 H (a ++ b)) : Sep K H0 H a := by
  obtain ⟨B, f, h0, hB, r, nd, hn⟩ := h
  obtain ⟨g, h', rfl, r1, r2⟩ := RlS.append.mp r
  exact ⟨B, g, h0, hB, r1, (List.nodup_append.mp nd).1, fun q hq => hn q (List.mem_append_left _ hq)⟩
theorem Sep.dropL {a b : List En} (h : Sep K H0 H (a ++ b)) : Sep K H0 H b := by
  obtain ⟨B, f, h0, hB, r, nd, hn⟩ := h
  obtain ⟨g, h', rfl, r1, r2⟩ := RlS.append.mp r
  exact ⟨B, h', h0, hB, r2, (List.nodup_append.mp nd).2.1, fun q hq => hn q (List.mem_append_right _ hq)⟩
theorem Sep.drop1 {e : En} {b : List En} (h : Sep K H0 H (e :: b)) : Sep K H0 H b := Sep.dropL (a := [e]) h
/-- an entry forgotten -/
theorem Sep.junk1 {e : En} {v : Option V} {b : List En} (h : Sep K H0 H (e :: b)) : Sep K H0 H ((D.junk, v) :: b) := by
  obtain ⟨B, f, h0, hB, r, nd, hn⟩ := h.drop1
  exact ⟨B, f, h0, hB, ⟨[], f, rfl, .inl ⟨rfl, rfl⟩, r⟩, nd, hn⟩
theorem Sep.addJunk {v : Option V} {b : List En} (h : Sep K H0 H b) : Sep K H0 H ((D.junk, v) :: b) := by
  obtain ⟨B, f, h0, hB, r, nd, hn⟩ := h
  exact ⟨B, f, h0, hB, ⟨[], f, rfl, .inl ⟨rfl, rfl⟩, r⟩, nd, hn⟩
/-- a value that is no object -/
def scalD : D → V → Prop
  | .non, v => v = .non
  | .bl b, v => v = .bl b
  | .int i, v => v = .int i
  | .str x, v => v = .str x
  | _, _ => False
theorem Sep.scal {d : D} {v : V} {b : List En} (h : Sep K H0 H b) (e : scalD d v) : Sep K H0 H ((d, some v) :: b) := by
  obtain ⟨B, f, h0, hB, r, nd, hn⟩ := h
  refine ⟨B, f, h0, hB, ⟨[], f, rfl, .inr ⟨v, rfl, ?_⟩, r⟩, nd, hn⟩
  cases d <;> first | exact ⟨e, rfl⟩ | exact e.elim
theorem Sep.is_non {v : Option V} {b : List En} (h : Sep K H0 H ((D.non, v) :: b)) : v = some .non := by
  obtain ⟨B, f, h0, hB, ⟨g, h', rfl, r1, r2⟩, nd, hn⟩ := h
  rcases r1 with ⟨e, _⟩ | ⟨w, e, r1⟩
  · cases e
  · rw [show v = some w from e, r1.1]
theorem Sep.is_bl {c : Bool} {v : Option V} {b : List En} (h : Sep K H0 H ((D.bl c, v) :: b)) : v = some (.bl c) := by
  obtain ⟨B, f, h0, hB, ⟨g, h', rfl, r1, r2⟩, nd, hn⟩ := h
  rcases r1 with ⟨e, _⟩ | ⟨w, e, r1⟩
  · cases e
  · rw [show v = some w from e, r1.1]
theorem Sep.is_int {c : Int} {v : Option V} {b : List En} (h : Sep K H0 H ((D.int c, v) :: b)) : v = some (.int c) := by
  obtain ⟨B, f, h0, hB, ⟨g, h', rfl, r1, r2⟩, nd, hn⟩ := h
  rcases r1 with ⟨e, _⟩ | ⟨w, e, r1⟩
  · cases e
  · rw [show v = some w from e, r1.1]
theorem Sep.is_str {c : Str} {v : Option V} {b : List En} (h : Sep K H0 H ((D.str c, v) :: b)) : v = some (.str c) := by
  obtain ⟨B, f, h0, hB, ⟨g, h', rfl, r1, r2⟩, nd, hn⟩ := h
  rcases r1 with ⟨e, _⟩ | ⟨w, e, r1⟩
  · cases e
  · rw [show v = some w from e, r1.1]
/-- every real entry has a value -/
theorem Sep.has {d : D} {v : Option V} {b : List En} (h : Sep K H0 H ((d, v) :: b)) (r : d ≠ .junk) : ∃ w, v = some w := by
  obtain ⟨B, f, h0, hB, ⟨g, h', rfl, r1, r2⟩, nd, hn⟩ := h
  rcases r1 with ⟨e, _⟩ | ⟨w, e, r1⟩
  · exact absurd e r
  · exact ⟨w, e⟩
/-- frozen ones may be copied -/
theorem Sep.dup {d : D} {v : Option V} {b : List En} (h : Sep K H0 H ((d, v) :: b)) (z : isFz d = true) : Sep K H0 H ((d, v) :: (d, v) :: b) := by
  obtain ⟨B, f, h0, hB, ⟨g, h', rfl, r1, r2⟩, nd, hn⟩ := h
  have eg : g = [] := by
    rcases r1 with ⟨_, e⟩ | ⟨w, e, r1⟩
    · exact e
    · exact Rl.fz_nil _ _ _ z r1
  subst eg
  exact ⟨B, h', h0, hB, ⟨[], h', rfl, r1, [], h', rfl, r1, r2⟩, nd, hn⟩
theorem Sep.freeze {d : D} {v : Option V} {b : List En} (h : Sep K H0 H ((d, v) :: b)) : Sep K H0 H ((frz d, v) :: b) := by
  obtain ⟨B, f, h0, hB, ⟨g, h', rfl, r1, r2⟩, nd, hn⟩ := h
  have hgh := List.nodup_append.mp nd
  have tr := r1.tracked
  have s1 : Same B (fun a => if a ∈ g then H a else B a) := fun p o e => by
    show (if p ∈ g then H p else B p) = some o
    by_cases m : p ∈ g
    · rw [hn p (List.mem_append_left _ m)] at e; cases e
    · rw [if_neg m]; exact e
  have s2 : Same (fun a => if a ∈ g then H a else B a) H := fun p o e => by
    have e : (if p ∈ g then H p else B p) = some o := e
    by_cases m : p ∈ g
    · rwa [if_pos m] at e
    · rw [if_neg m] at e; exact hB _ _ e
  refine ⟨fun a => if a ∈ g then H a else B a, h', h0.trans s1, s2, ⟨[], h', rfl, ?_, r2.mono s1 (TSame.same (Same.refl H)) fun _ _ _ e => e⟩, hgh.2.1, fun p hp => ?_⟩
  · rcases r1 with ⟨e, _⟩ | ⟨w, e, r1⟩
    · have e : d = .junk := e
      subst e; exact .inl ⟨rfl, rfl⟩
    · refine .inr ⟨w, e, Rl.freeze s1 d w g (fun p hp o e => ?_) r1⟩
      show (if p ∈ g then H p else B p) = some o
      rw [if_pos hp]; exact e
  · show (if p ∈ g then H p else B p) = none
    rw [if_neg fun m => hgh.2.2 p m p hp rfl]
    exact hn p (List.mem_append_right _ hp)
/-- all seen as frozen, over the whole heap -/
theorem Rl.view (hB : Same B H) : ∀ (d : D) (v : V) (f : List Addr), Rl K B H d v f → Rl K H H (vwD d) v []
  | .non, _, _, h => ⟨h.1, rfl⟩
  | .bl _, _, _, h => ⟨h.1, rfl⟩
  | .int _, _, _, h => ⟨h.1, rfl⟩
  | .str _, _, _, h => ⟨h.1, rfl⟩
  | .lst true xs, v, f, h => Rl.freeze hB (.lst true xs) v f (fun _ _ _ q => q) h
  | .lst false xs, v, f, h => by
    have q := Rl.fz_nil (.lst false xs) v f rfl h
    subst q
    exact Rl.mono hB (TSame.same (Same.refl H)) (.lst false xs) v [] (fun _ _ _ q => q) h
  | .tup xs, v, f, h => by
    obtain ⟨p, vs, e, ht, hl⟩ := h
    exact ⟨p, vs, e, ht, go xs vs f hl⟩
  | .dic true ks xs, v, f, h => Rl.freeze hB (.dic true ks xs) v f (fun _ _ _ q => q) h
  | .dic false ks xs, v, f, h => by
    have q := Rl.fz_nil (.dic false ks xs) v f rfl h
    subst q
    exact Rl.mono hB (TSame.same (Same.refl H)) (.dic false ks xs) v [] (fun _ _ _ q => q) h
  | .nod o, v, f, h => Rl.freeze hB (.nod o) v f (fun _ _ _ q => q) h
  | .ndt o, v, f, h => Rl.freeze hB (.ndt o) v f (fun _ _ _ q => q) h
  | .scr o, v, f, h => Rl.freeze hB (.scr o) v f (fun _ _ _ q => q) h
  | .hnd _, _, _, _ => rfl
  | .junk, _, _, _ => rfl
where go : ∀ (ds : List D) (vs : List V) (f : List Addr), RlL K B H ds vs f → RlL K H H (vwDL ds) vs []
  | [], _, _, h => ⟨h.1, rfl⟩
  | d :: ds, vs, f, h => by
    obtain ⟨v, r, g, h', e, ef, h1, h2⟩ := h
    exact ⟨v, r, [], [], e, rfl, Rl.view hB d v g h1, go ds r h' h2⟩
theorem RlS.view : ∀ {es : List En} {f : List Addr}, Same B H → RlS K B H es f → RlS K H H (es.map fun e => (vwD e.1, e.2)) []
  | [], f, s, h => rfl
  | e :: es, f, s, h => by
    obtain ⟨g, h', rfl, h1, h2⟩ := h
    refine ⟨[], [], rfl, ?_, RlS.view s h2⟩
    rcases h1 with ⟨e1, _⟩ | ⟨v, e1, h1⟩
    · exact .inl ⟨by show vwD e.1 = .junk; rw [e1]; rfl, rfl⟩
    · exact .inr ⟨v, e1, Rl.view s _ _ _ h1⟩
theorem Sep.view {es : List En} (h : Sep K H0 H es) : Sep K H H (es.map fun e => (vwD e.1, e.2)) := by
  obtain ⟨B, f, h0, hB, r, nd, hn⟩ := h
  exact ⟨H, [], Same.refl H, Same.refl H, r.view hB, List.nodup_nil, fun p hp => by cases hp⟩
/-- behind a pure piece of work: the new entry joins what stood -/
theorem Sep.join {es es2 : List En} {d : D} {v : Option V} (h : Sep K H0 H es) (h2 : Sep K H H' ((d, v) :: es2)) (ho : allOwn d = true) : Sep K H0 H' ((d, v) :: es) := by
  obtain ⟨B, f, h0, hB, r, nd, hn⟩ := h
  obtain ⟨B2, f2, k0, kB, ⟨g, g', rfl, r1, r2⟩, nd2, hn2⟩ := h2
  have s : Same H H' := k0.trans kB
  have out : ∀ p ∈ g, H p = none := fun p hp => k0.free (hn2 p (List.mem_append_left _ hp))
  refine ⟨B, g ++ f, h0, hB.trans s, ⟨g, f, rfl, ?_, r.mono (Same.refl B) (TSame.same s) fun p _ o e => s p o e⟩, ?_, fun p hp => ?_⟩
  · rcases r1 with ⟨e, e'⟩ | ⟨w, e, r1⟩
    · exact .inl ⟨e, e'⟩
    · exact .inr ⟨w, e, Rl.rebase _ _ _ ho r1⟩
  · refine List.nodup_append.mpr ⟨(List.nodup_append.mp nd2).1, nd, fun a ha b hb e => ?_⟩
    subst e
    obtain ⟨o, eo⟩ := r.tracked a hb
    rw [out a ha] at eo; cases eo
  · rcases List.mem_append.mp hp with hp | hp
    · exact hB.free (out p hp)
    · exact hn p hp

/-! ### new objects -/
theorem same_new {p : Addr} {o : HO} (h : H p = none) : Same H (upd H p o) := fun b x e => by
  rw [upd_ne (ne_of_none e h)]; exact e
theorem Sep.newHnd {p : Addr} {o : HO} {es : List En} (h : Sep K H0 H es) (hp : H p = none) (hm : isMutHO o = true) : Sep K H0 (upd H p o) ((.hnd o, some (.ref p)) :: es) := by
  have h' := h.mono (same_new (o := o) hp)
  obtain ⟨B, f, h0, hB, r, nd, hn⟩ := h
  obtain ⟨B', f', h0', hB', r', nd', hn'⟩ : Sep K H0 (upd H p o) es := ⟨B, f, h0, hB.trans (same_new hp), r.mono (Same.refl B) (TSame.same (same_new hp)) (fun q _ u e => same_new hp q u e), nd, hn⟩
  refine ⟨B, p :: f, h0, hB.trans (same_new hp), ⟨[p], f, rfl, .inr ⟨.ref p, rfl, p, rfl, upd_same, hm, rfl⟩, r.mono (Same.refl B) (TSame.same (same_new hp)) fun q _ u e => same_new hp q u e⟩, ?_, fun q hq => ?_⟩
  · refine List.nodup_cons.mpr ⟨fun m => ?_, nd⟩
    obtain ⟨u, e⟩ := r.tracked p m
    rw [hp] at e; cases e
  · rcases List.mem_cons.mp hq with rfl | hq
    · exact hB.free hp
    · exact hn q hq
/-- a node with its children: a list -/
theorem Sep.closeL {ws : List V} {xs : List D} {v : Option V} {es : List En} (h : Sep K H0 H ((.hnd (.lst ws), v) :: (ens xs ws ++ es))) (hl : xs.length = ws.length) : Sep K H0 H ((.lst true xs, v) :: es) := by
  obtain ⟨B, f, h0, hB, ⟨g, h', rfl, r1, r2⟩, nd, hn⟩ := h
  obtain ⟨g2, h2, rfl, r3, r4⟩ := RlS.append.mp r2
  refine ⟨B, (g ++ g2) ++ h2, h0, hB, ⟨g ++ g2, h2, rfl, ?_, r4⟩, by rw [List.append_assoc]; exact nd, by rw [List.append_assoc]; exact hn⟩
  rcases r1 with ⟨e, _⟩ | ⟨w, e, p, e2, hp, _, eg⟩
  · cases e
  · subst eg
    exact .inr ⟨w, e, p, ws, g2, e2, rlL_of_S hl r3, .inl ⟨rfl, hp, rfl⟩⟩
theorem Sep.openL {xs : List D} {v : Option V} {es : List En} (h : Sep K H0 H ((.lst true xs, v) :: es)) : ∃ p ws, v = some (.ref p) ∧ H p = some (.lst ws) ∧ xs.length = ws.length ∧ Sep K H0 H ((.hnd (.lst ws), v) :: (ens xs ws ++ es)) := by
  obtain ⟨B, f, h0, hB, ⟨g, h', rfl, r1, r2⟩, nd, hn⟩ := h
  rcases r1 with ⟨e, _⟩ | ⟨w, e, p, ws, g2, e2, hl, hc⟩
  · cases e
  · rcases hc with ⟨_, hp, eg⟩ | ⟨e, _⟩
    · subst e2; subst eg
      exact ⟨p, ws, e, hp, hl.length, B, (p :: g2) ++ h', h0, hB, ⟨[p], g2 ++ h', rfl, .inr ⟨.ref p, e, p, rfl, hp, rfl, rfl⟩, RlS.append.mpr ⟨g2, h', rfl, rlS_of_L hl, r2⟩⟩, nd, hn⟩
    · cases e
/-- read a list, owned or not: its node stays (it is frozen), its children come -/
theorem Sep.readL {o : Bool} {xs : List D} {v : Option V} {es : List En} (h : Sep K H0 H ((.lst o xs, v) :: es)) : ∃ p ws, v = some (.ref p) ∧ H p = some (.lst ws) ∧ xs.length = ws.length ∧ Sep K H0 H ((.nod (.lst ws), v) :: (ens xs ws ++ es)) := by
  obtain ⟨B, f, h0, hB, ⟨g, h', rfl, r1, r2⟩, nd, hn⟩ := h
  rcases r1 with ⟨e, _⟩ | ⟨w, e, p, ws, g2, e2, hl, hc⟩
  · cases e
  · subst e2
    rcases hc with ⟨_, hp, eg⟩ | ⟨_, hp, eg2, eg⟩
    · subst eg
      have hpB : B p = none := hn p (List.mem_append_left _ List.mem_cons_self)
      have s1 : Same B (upd B p (.lst ws)) := same_new hpB
      have s2 : Same (upd B p (.lst ws)) H := fun q u e => by
        by_cases z : q = p
        · subst z; rw [upd_same] at e; cases e; exact hp
        · rw [upd_ne z] at e; exact hB _ _ e
      have nd' : (p :: (g2 ++ h')).Nodup := nd
      refine ⟨p, ws, e, hp, hl.length, upd B p (.lst ws), g2 ++ h', h0.trans s1, s2, ⟨[], g2 ++ h', rfl, .inr ⟨.ref p, e, p, rfl, upd_same, rfl⟩, RlS.append.mpr ⟨g2, h', rfl, (rlS_of_L hl).mono s1 (TSame.same (Same.refl H)) fun _ _ _ q => q, r2.mono s1 (TSame.same (Same.refl H)) fun _ _ _ q => q⟩⟩, (List.nodup_cons.mp nd').2, fun q hq => ?_⟩
      rw [upd_ne]
      · exact hn q (List.mem_cons_of_mem _ hq)
      · rintro rfl; exact (List.nodup_cons.mp nd').1 hq
    · subst eg; subst eg2
      exact ⟨p, ws, e, hB _ _ hp, hl.length, B, h', h0, hB, ⟨[], h', rfl, .inr ⟨.ref p, e, p, rfl, hp, rfl⟩, RlS.append.mpr ⟨[], h', rfl, rlS_of_L hl, r2⟩⟩, nd, hn⟩
theorem Sep.readT {xs : List D} {v : Option V} {es : List En} (h : Sep K H0 H ((.tup xs, v) :: es)) : ∃ p ws, v = some (.ref p) ∧ SqT K H p ws ∧ xs.length = ws.length ∧ Sep K H0 H (ens xs ws ++ es) := by
  obtain ⟨B, f, h0, hB, ⟨g, h', rfl, r1, r2⟩, nd, hn⟩ := h
  rcases r1 with ⟨e, _⟩ | ⟨w, e, p, ws, e2, ht, hl⟩
  · cases e
  · subst e2
    exact ⟨p, ws, e, ht, hl.length, B, g ++ h', h0, hB, RlS.append.mpr ⟨g, h', rfl, rlS_of_L hl, r2⟩, nd, hn⟩
/-- .. the tuple itself kept too -/
theorem Sep.readTn {xs : List D} {v : Option V} {es : List En} (h : Sep K H0 H ((.tup xs, v) :: es)) : ∃ p ws, v = some (.ref p) ∧ SqT K H p ws ∧ xs.length = ws.length ∧ Sep K H0 H ((.ndt ws, v) :: (ens xs ws ++ es)) := by
  obtain ⟨B, f, h0, hB, ⟨g, h', rfl, r1, r2⟩, nd, hn⟩ := h
  rcases r1 with ⟨e, _⟩ | ⟨w, e, p, ws, e2, ht, hl⟩
  · cases e
  · subst e2
    exact ⟨p, ws, e, ht, hl.length, B, g ++ h', h0, hB, ⟨[], g ++ h', rfl, .inr ⟨.ref p, e, p, rfl, ht, rfl⟩, RlS.append.mpr ⟨g, h', rfl, rlS_of_L hl, r2⟩⟩, nd, hn⟩
theorem Sep.ndtAt {ws : List V} {v : Option V} {es : List En} (h : Sep K H0 H ((.ndt ws, v) :: es)) : ∃ p, v = some (.ref p) ∧ SqT K H p ws := by
  obtain ⟨B, f, h0, hB, ⟨g, h', rfl, r1, r2⟩, nd, hn⟩ := h
  rcases r1 with ⟨e, _⟩ | ⟨w, e, p, e2, hp, _⟩
  · cases e
  · subst e2; exact ⟨p, e, hp⟩
theorem Sep.closeT {xs : List D} {ws : List V} {p : Addr} {es : List En} (h : Sep K H0 H (ens xs ws ++ es)) (hl : xs.length = ws.length) (ht : SqT K H p ws) : Sep K H0 H ((.tup xs, some (.ref p)) :: es) := by
  obtain ⟨B, f, h0, hB, r, nd, hn⟩ := h
  obtain ⟨g2, h2, rfl, r3, r4⟩ := RlS.append.mp r
  exact ⟨B, g2 ++ h2, h0, hB, ⟨g2, h2, rfl, .inr ⟨.ref p, rfl, p, ws, rfl, ht, rlL_of_S hl r3⟩, r4⟩, nd, hn⟩
theorem Sep.nodAt {o : HO} {v : Option V} {es : List En} (h : Sep K H0 H ((.nod o, v) :: es)) : ∃ p, v = some (.ref p) ∧ H p = some o := by
  obtain ⟨B, f, h0, hB, ⟨g, h', rfl, r1, r2⟩, nd, hn⟩ := h
  rcases r1 with ⟨e, _⟩ | ⟨w, e, p, e2, hp, _⟩
  · cases e
  · subst e2; exact ⟨p, e, hB _ _ hp⟩
theorem Sep.hndAt {o : HO} {v : Option V} {es : List En} (h : Sep K H0 H ((.hnd o, v) :: es)) : ∃ p, v = some (.ref p) ∧ H p = some o := by
  obtain ⟨B, f, h0, hB, ⟨g, h', rfl, r1, r2⟩, nd, hn⟩ := h
  rcases r1 with ⟨e, _⟩ | ⟨w, e, p, e2, hp, _⟩
  · cases e
  · subst e2; exact ⟨p, e, hp⟩
/-- an owned node written -/
theorem Sep.write {o o' : HO} {p : Addr} {es : List En} (h : Sep K H0 H ((.hnd o, some (.ref p)) :: es)) (hm : isMutHO o' = true) : Sep K H0 (upd H p o') ((.hnd o', some (.ref p)) :: es) := by
  obtain ⟨B, f, h0, hB, ⟨g, h', rfl, r1, r2⟩, nd, hn⟩ := h
  rcases r1 with ⟨e, _⟩ | ⟨w, e, q, e2, hp, hm0, eg⟩
  · cases e
  · have e3 : w = .ref p := (Option.some.inj e).symm
    subst e3
    have e4 : p = q := V.ref.inj e2
    subst e4
    subst eg
    have nd' : (p :: h').Nodup := nd
    have hpB : B p = none := hn p List.mem_cons_self
    refine ⟨B, p :: h', h0, fun q u e => ?_, ⟨[p], h', rfl, .inr ⟨.ref p, rfl, p, rfl, upd_same, hm, rfl⟩, r2.mono (Same.refl B) (TSame.upd hp hm0) fun q hq u e => ?_⟩, nd, hn⟩
    · rw [upd_ne (ne_of_none e hpB)]; exact hB _ _ e
    · rw [upd_ne]
      · exact e
      · rintro rfl; exact (List.nodup_cons.mp nd').1 hq
theorem Sep.newL {ws : List V} {xs : List D} {p : Addr} {es : List En} (h : Sep K H0 H (ens xs ws ++ es)) (hl : xs.length = ws.length) (hp : H p = none) : Sep K H0 (upd H p (.lst ws)) ((.lst true xs, some (.ref p)) :: es) := (h.newHnd hp rfl).closeL hl
theorem Sep.newT {ws : List V} {xs : List D} {p : Addr} {es : List En} (h : Sep K H0 H (ens xs ws ++ es)) (hl : xs.length = ws.length) (hp : H p = none) : Sep K H0 (upd H p (.tup ws)) ((.tup xs, some (.ref p)) :: es) :=
  (h.mono (same_new hp)).closeT hl (SqT.of upd_same)
end
end VL
/-! the judgements over slot values: names, constants, temporaries -/
namespace VL
open PySem PySem.Spec PyProof.Rows L2

section
variable {K : PySem.W.Frag} {H H' H0 : Hp}
/-- the slots hold env; fr: what else is held -/
def Rep (K : PySem.W.Frag) (H0 H : Hp) (env : List D) (σ : L2.St) (fr : List En) : Prop := env.length = σ.length ∧ Sep K H0 H (fr ++ env.zip σ)

theorem zip_focus : ∀ {env : List D} {σ : L2.St} {i : Nat} {d : D}, env.length = σ.length → env[i]? = some d → ∃ ov rest, σ[i]? = some ov ∧ (env.zip σ).Perm ((d, ov) :: rest) ∧ ∀ d' ov', ((env.set i d').zip (σ.set i ov')).Perm ((d', ov') :: rest)
  | [], _, _, _, _, h => by simp at h
  | _ :: _, [], _, _, e, _ => by cases e
  | x :: env, s :: σ, 0, d, e, h => by
    have h : x = d := by simpa using h
    subst h
    exact ⟨s, env.zip σ, rfl, .refl _, fun d' ov' => .refl _⟩
  | x :: env, s :: σ, i + 1, d, e, h => by
    obtain ⟨ov, rest, h1, h2, h3⟩ := zip_focus (i := i) (d := d) (by simpa using e) (by simpa using h)
    exact ⟨ov, (x, s) :: rest, by simpa using h1, (h2.cons _).trans (.swap _ _ _), fun d' ov' => ((h3 d' ov').cons _).trans (.swap _ _ _)⟩
theorem set_same {α : Type} : ∀ {l : List α} {i : Nat} {a : α}, l[i]? = some a → l.set i a = l
  | [], _, _, h => by simp at h
  | x :: l, 0, a, h => by simp at h; simp [h]
  | x :: l, i + 1, a, h => by simp at h; simp [set_same h]
theorem mid_perm {α : Type} (a : α) (l r : List α) : (l ++ a :: r).Perm (a :: (l ++ r)) := List.perm_middle

/-- one slot at the front -/
theorem Rep.focus {env : List D} {σ : L2.St} {fr : List En} {i : Nat} {d : D} (h : Rep K H0 H env σ fr) (e : env[i]? = some d) :
    ∃ ov rest, σ[i]? = some ov ∧ Sep K H0 H ((d, ov) :: (fr ++ rest)) ∧ (∀ (H1 H2 : Hp) (d' : D) (ov' : Option V) (fr' : List En), Sep K H1 H2 ((d', ov') :: (fr' ++ rest)) → Rep K H1 H2 (env.set i d') (σ.set i ov') fr') ∧
      (∀ (H1 H2 : Hp) (d' : D) (fr' : List En), Sep K H1 H2 ((d', ov) :: (fr' ++ rest)) → Rep K H1 H2 (env.set i d') σ fr') := by
  obtain ⟨hl, hs⟩ := h
  obtain ⟨ov, rest, h1, h2, h3⟩ := zip_focus hl e
  refine ⟨ov, rest, h1, hs.perm ((h2.append_left fr).trans (mid_perm _ _ _)), fun H1 H2 d' ov' fr' h' => ⟨by simpa using hl, h'.perm ?_⟩, fun H1 H2 d' fr' h' => ⟨by simpa using hl, h'.perm ?_⟩⟩
  · exact (mid_perm _ _ _).symm.trans ((h3 d' ov').symm.append_left fr')
  · have q := h3 d' ov
    rw [set_same h1] at q
    exact (mid_perm _ _ _).symm.trans (q.symm.append_left fr')
theorem Rep.temp {env : List D} {σ : L2.St} {fr : List En} {t : List En} : Rep K H0 H env σ (t ++ fr) ↔ env.length = σ.length ∧ Sep K H0 H (t ++ (fr ++ env.zip σ)) := by
  unfold Rep
  rw [List.append_assoc]
end

abbrev TV := List D → (D → List D → Prop) → Prop
/-- e works at the slots' values as t tells -/
def EOk (K : PySem.W.Frag) (te : TE) (t : TV) : Prop := ∀ (H0 : Hp) (env : List D) (fr : List En) (σ : L2.St) (H : Hp) (C : D → List D → Prop) (Q : VK), Rep K H0 H env σ fr → t env C →
    (∀ d env' v H', C d env' → Rep K H0 H' env' σ ((d, some v) :: fr) → Q v H') → te σ H Q
structure VE (X : Cx) (e : Expr) (te : TE) (t : TV) : Prop where
  pe : PE X e te
  ok : EOk X.K te t
abbrev TVA := List D → (List D → List D → Prop) → Prop
/-- arguments: their values lie on the frame, in order -/
def AOk (K : PySem.W.Frag) (ta : TA) (t : TVA) : Prop := ∀ (H0 : Hp) (env : List D) (fr : List En) (σ : L2.St) (H : Hp) (C : List D → List D → Prop) (Q : List V → Hp → Prop), Rep K H0 H env σ fr → t env C →
    (∀ ds env' vs H', C ds env' → ds.length = vs.length → Rep K H0 H' env' σ (ens ds vs ++ fr) → Q vs H') → ta σ H Q
structure VA (X : Cx) (es : List Expr) (ta : TA) (t : TVA) : Prop where
  pe : PA X es ta
  ok : AOk X.K ta t
abbrev TVT := List D → (Bool → List D → Prop) → Prop
/-- a test -/
def BOk (K : PySem.W.Frag) (tt : TT) (t : TVT) : Prop := ∀ (H0 : Hp) (env : List D) (fr : List En) (σ : L2.St) (H : Hp) (C : Bool → List D → Prop) (Q : Bool → Hp → Prop), Rep K H0 H env σ fr → t env C →
    (∀ b env' H', C b env' → Rep K H0 H' env' σ fr → Q b H') → tt σ H Q
structure VT (X : Cx) (e : Expr) (tt : TT) (t : TVT) : Prop where
  pe : PT X e tt
  ok : BOk X.K tt t

/-! ### names, constants -/
def vname (i : Nat) : TV := fun env C => match env[i]? with
  | some d => if isFz d then real d = true ∧ C d env else isFz (frz d) = true ∧ C (frz d) (env.set i (frz d))
  | none => False
def vmove (i : Nat) : TV := fun env C => match env[i]? with
  | some d => real d = true ∧ C d (env.set i .junk)
  | none => False
def vcst (d : D) : TV := fun env C => C d env

section
variable {X : Cx} {x : Str} {pos : Pos}
theorem ve_name (i : Nat) (h : PE X (.Name x pos) (tVar i)) : VE X (.Name x pos) (tVar i) (vname i) := by
  refine ⟨h, fun H0 env fr σ H C Q r ht k => ?_⟩
  unfold vname at ht
  cases e : env[i]? with
  | none => rw [e] at ht; exact ht.elim
  | some d =>
    rw [e] at ht
    obtain ⟨ov, rest, h1, h2, _, h3⟩ := r.focus e
    by_cases hz : isFz d = true
    · obtain ⟨hre, ht⟩ : real d = true ∧ C d env := by simpa [hz] using ht
      obtain ⟨v, rfl⟩ := h2.has (by rintro rfl; cases hre)
      have q := h3 H0 H d ((d, some v) :: fr) ((h2.dup hz).perm (.refl _))
      rw [set_same e] at q
      exact ⟨v, h1, k d env v H ht q⟩
    · have ht : isFz (frz d) = true ∧ C (frz d) (env.set i (frz d)) := by simpa [hz] using ht
      obtain ⟨v, rfl⟩ := h2.has (by rintro rfl; exact hz rfl)
      exact ⟨v, h1, k _ _ v H ht.2 (h3 H0 H (frz d) ((frz d, some v) :: fr) (h2.freeze.dup ht.1))⟩
theorem ve_move (i : Nat) (h : PE X (.Name x pos) (tVar i)) : VE X (.Name x pos) (tVar i) (vmove i) := by
  refine ⟨h, fun H0 env fr σ H C Q r ht k => ?_⟩
  unfold vmove at ht
  cases e : env[i]? with
  | none => rw [e] at ht; exact ht.elim
  | some d =>
    rw [e] at ht
    obtain ⟨ov, rest, h1, h2, _, h3⟩ := r.focus e
    obtain ⟨v, rfl⟩ := h2.has (by rintro rfl; cases ht.1)
    exact ⟨v, h1, k _ _ v H ht.2 (h3 H0 H .junk ((d, some v) :: fr) h2.addJunk)⟩
theorem ve_cst {e : Expr} {d : D} {v : V} (h : PE X e (tC v)) (hd : scalD d v) : VE X e (tC v) (vcst d) :=
  ⟨h, fun H0 env fr σ H C Q r ht k => k d env v H ht ⟨r.1, r.2.scal hd⟩⟩
theorem ve_int {i j} : VE X (.Constant (.int i) j pos) (tC (.int i)) (vcst (.int i)) := ve_cst pe_int rfl
theorem ve_bl {b j} : VE X (.Constant (.bool b) j pos) (tC (.bl b)) (vcst (.bl b)) := ve_cst pe_bl rfl
theorem ve_non {j} : VE X (.Constant .none j pos) (tC .non) (vcst .non) := ve_cst pe_non rfl
theorem ve_str {z j} : VE X (.Constant (.str z) j pos) (tC (.str z)) (vcst (.str z)) := ve_cst pe_str rfl
end

/-! ### pure work: over the slots seen as frozen; the answer owns what it has -/
def vpure (t : TV) : TV := fun env C => t (env.map vwD) fun d env' => env' = env.map vwD ∧ allOwn d = true ∧ C d env
section
variable {X : Cx} {e : Expr}
theorem zip_map_vw : ∀ (env : List D) (σ : L2.St), (env.zip σ).map (fun e => (vwD e.1, e.2)) = (env.map vwD).zip σ
  | [], _ => rfl
  | _ :: _, [] => rfl
  | x :: env, s :: σ => by simp [zip_map_vw env σ]
theorem Rep.view {K : PySem.W.Frag} {H0 H : Hp} {env : List D} {σ : L2.St} {fr : List En} (h : Rep K H0 H env σ fr) : Rep K H H (env.map vwD) σ [] := by
  refine ⟨by simpa using h.1, ?_⟩
  have q := h.2.dropL.view
  rw [zip_map_vw] at q
  exact q
theorem ve_pure {te : TE} {t : TV} (h : VE X e te t) : VE X e te (vpure t) := by
  obtain ⟨he, ht⟩ := h
  refine ⟨he, fun H0 env fr σ H C Q r h k => ht H (env.map vwD) [] σ H _ Q r.view h fun d env' v H' hc r' => ?_⟩
  obtain ⟨e1, ho, hc⟩ := hc
  exact k d env v H' hc ⟨r.1, r.2.join r'.2 ho⟩
def vpureT (t : TVT) : TVT := fun env C => t (env.map vwD) fun b env' => env' = env.map vwD ∧ C b env
theorem vt_pure {tt : TT} {t : TVT} (h : VT X e tt t) : VT X e tt (vpureT t) := by
  obtain ⟨he, ht⟩ := h
  refine ⟨he, fun H0 env fr σ H C Q r h k => ht H (env.map vwD) [] σ H _ Q r.view h fun b env' H' hc r' => ?_⟩
  obtain ⟨e1, hc⟩ := hc
  exact k b env H' hc ⟨r.1, r.2.mono r'.2.floor⟩
end

/-! ### operations on temporaries -/
abbrev W1 := D → (D → Prop) → Prop
abbrev W2 := D → D → (D → Prop) → Prop
abbrev WN := List D → (D → Prop) → Prop
def Ok1 (K : PySem.W.Frag) (r : V → Hp → VK → Prop) (w : W1) : Prop := ∀ (H0 H : Hp) (d : D) (v : V) (es : List En) (C : D → Prop) (Q : VK), Sep K H0 H ((d, some v) :: es) → w d C →
  (∀ d' v' H', C d' → Sep K H0 H' ((d', some v') :: es) → Q v' H') → r v H Q
def Ok2 (K : PySem.W.Frag) (r : R2) (w : W2) : Prop := ∀ (H0 H : Hp) (a b : D) (u v : V) (es : List En) (C : D → Prop) (Q : VK), Sep K H0 H ((b, some v) :: (a, some u) :: es) → w a b C →
  (∀ d' v' H', C d' → Sep K H0 H' ((d', some v') :: es) → Q v' H') → r u v H Q
def OkN (K : PySem.W.Frag) (r : List V → Hp → VK → Prop) (w : WN) : Prop := ∀ (H0 H : Hp) (ds : List D) (vs : List V) (es : List En) (C : D → Prop) (Q : VK), ds.length = vs.length → Sep K H0 H (ens ds vs ++ es) → w ds C →
  (∀ d' v' H', C d' → Sep K H0 H' ((d', some v') :: es) → Q v' H') → r vs H Q
theorem Ok2.or {K : PySem.W.Frag} {r r' : R2} {w w' : W2} (h : Ok2 K r w) (h' : Ok2 K r' w') : Ok2 K (fun x y H Q => r x y H Q ∨ r' x y H Q) (fun a b C => w a b C ∨ w' a b C) := fun H0 H a b u v es C Q s hw k => by
  rcases hw with hw | hw
  · exact .inl (h H0 H a b u v es C Q s hw k)
  · exact .inr (h' H0 H a b u v es C Q s hw k)

def vbin (w : W2) (ta tb : TV) : TV := fun env C => ta env fun a e1 => tb e1 fun b e2 => w a b fun d => C d e2
def vun (w : W1) (ta : TV) : TV := fun env C => ta env fun a e1 => w a fun d => C d e1
section
variable {X : Cx} {a b : Expr} {te tf : TE} {ta tb : TV} {pos : Pos}
/-- two in a row -/
theorem run2 {te tf : TE} {r : R2} {w : W2} (hw : Ok2 X.K r w) (h1 : EOk X.K te ta) (h2 : EOk X.K tf tb) : EOk X.K (tOp r te tf) (vbin w ta tb) := by
  intro H0 env fr σ H C Q r0 ht k
  refine h1 H0 env fr σ H _ _ r0 ht fun d1 e1 v1 H1 c1 r1 => ?_
  refine h2 H0 e1 ((d1, some v1) :: fr) σ H1 _ _ r1 c1 fun d2 e2 v2 H2 c2 r2 => ?_
  exact hw H0 H2 d1 d2 v1 v2 (fr ++ e2.zip σ) _ _ r2.2 c2 fun d3 v3 H3 c3 s3 => k d3 e2 v3 H3 c3 ⟨r2.1, s3⟩
theorem ve_op {op : Operator} {r : R2} {w : W2} (ho : OpR X (binaryOp op) r) (hw : Ok2 X.K r w) (ha : VE X a te ta) (hb : VE X b tf tb) : VE X (.BinOp a op b pos) (tOp r te tf) (vbin w ta tb) := ⟨pe_op ho ha.pe hb.pe, run2 hw ha.ok hb.ok⟩
theorem ve_cmp {op : CmpOp} {r : R2} {w : W2} (ho : OpR X (compareOp op) r) (hw : Ok2 X.K r w) (ha : VE X a te ta) (hb : VE X b tf tb) (hm : behindInMarks op b = false) : VE X (.Compare a [op] [b] pos) (tOp r te tf) (vbin w ta tb) := ⟨pe_cmpR ho ha.pe hb.pe hm, run2 hw ha.ok hb.ok⟩
theorem ve_un {op : UnaryOp} {r : V → Hp → VK → Prop} {w : W1} (ho : UnR X (unaryOp op) r) (hw : Ok1 X.K r w) (ha : VE X a te ta) : VE X (.UnaryOp op a pos) (tUn r te) (vun w ta) := by
  obtain ⟨h1, h2⟩ := ha
  refine ⟨pe_un ho h1, fun H0 env fr σ H C Q r0 ht k => h2 H0 env fr σ H _ _ r0 ht fun d1 e1 v1 H1 c1 r1 => ?_⟩
  exact hw H0 H1 d1 v1 (fr ++ e1.zip σ) _ _ r1.2 c1 fun d3 v3 H3 c3 s3 => k d3 e1 v3 H3 c3 ⟨r1.1, s3⟩
/-- o[i] -/
theorem ve_ix {r : R2} {w : W2} (hr : IxR X r) (hw : Ok2 X.K r w) (ha : VE X a te ta) (hb : VE X b tf tb) (hs : PlainIx b) : VE X (.Subscript a b pos) (tOp r te tf) (vbin w ta tb) := ⟨pe_ix hr ha.pe hb.pe hs, run2 hw ha.ok hb.ok⟩

/-! ### arguments -/
def vnil : TVA := fun env C => C [] env
def vcons (t : TV) (u : TVA) : TVA := fun env C => t env fun d e1 => u e1 fun ds e2 => C (d :: ds) e2
theorem va_nil : VA X [] tNil vnil := ⟨pa_nil, fun H0 env fr σ H C Q r ht k => k [] env [] H ht rfl r⟩
theorem va_cons {e : Expr} {es : List Expr} {te : TE} {ta : TA} {t : TV} {u : TVA} (he : VE X e te t) (hs : VA X es ta u) (hst : starEach (e :: es) X.env = (false, eval e X.env) :: starEach es X.env := by rfl) : VA X (e :: es) (tCons te ta) (vcons t u) := by
  obtain ⟨h1, h2⟩ := he
  obtain ⟨h3, h4⟩ := hs
  refine ⟨pa_cons h1 h3 hst, fun H0 env fr σ H C Q r ht k => ?_⟩
  refine h2 H0 env fr σ H _ _ r ht fun d1 e1 v1 H1 c1 r1 => ?_
  refine h4 H0 e1 ((d1, some v1) :: fr) σ H1 _ _ r1 c1 fun ds e2 vs H2 c2 hl r2 => ?_
  refine k (d1 :: ds) e2 (v1 :: vs) H2 c2 (by simp [hl]) ⟨r2.1, r2.2.perm ?_⟩
  have e : (ens (d1 :: ds) (v1 :: vs) ++ fr) ++ e2.zip σ = (d1, some v1) :: (ens ds vs ++ (fr ++ e2.zip σ)) := by
    rw [ens_cons, List.append_assoc, List.cons_append]
  rw [e, List.append_assoc]
  exact List.perm_middle
/-- a call of a built-in by its name -/
def vcall (w : WN) (t : TVA) : TV := fun env C => t env fun ds e1 => w ds fun d => C d e1
theorem runN {ta : TA} {t : TVA} {r : List V → Hp → VK → Prop} {w : WN} (hw : OkN X.K r w) (h2 : AOk X.K ta t) : EOk X.K (tCB r ta) (vcall w t) := by
  intro H0 env fr σ H C Q r0 ht k
  refine h2 H0 env fr σ H _ _ r0 ht fun ds e1 vs H1 c1 hl r1 => ?_
  have s1 := r1.2
  rw [List.append_assoc] at s1
  exact hw H0 H1 ds vs (fr ++ e1.zip σ) _ _ hl s1 c1 fun d3 v3 H3 c3 s3 => k d3 e1 v3 H3 c3 ⟨r1.1, s3⟩
variable {x : Str} {p : Pos} {e : Expr} {es : List Expr} {id T : String} {r : List V → Hp → VK → Prop} {w : WN} {ta : TA} {t : TVA}
theorem ve_callB (hc : CallR X (.builtin id) r) (hw : OkN X.K r w) (hg : Gl X x) (hm : X.mg x = none) (hv : bootBuiltins x = some (.builtin id)) (ha : VA X (e :: es) ta t) (hn : x ≠ "__name__" := by decide) (hdb : (x == ("__debug__" : Str)) = false := by decide)
    (he : starEach (e :: es) X.env = (false, eval e X.env) :: starEach es X.env := by rfl) (hpl : (backTo pos (starEach es X.env)).any (·.1) = false := by rfl) : VE X (.Call (.Name x p) (e :: es) [] pos) (tCB r ta) (vcall w t) := ⟨pe_callB hc hg hm hv ha.pe hn hdb he hpl, runN hw ha.ok⟩
theorem ve_callTy (hc : CallR X (.type T) r) (hw : OkN X.K r w) (hg : Gl X x) (hm : X.mg x = none) (hv : bootBuiltins x = some (.type T)) (ha : VA X (e :: es) ta t) (hn : x ≠ "__name__" := by decide) (hdb : (x == ("__debug__" : Str)) = false := by decide)
    (he : starEach (e :: es) X.env = (false, eval e X.env) :: starEach es X.env := by rfl) (hpl : (backTo pos (starEach es X.env)).any (·.1) = false := by rfl) : VE X (.Call (.Name x p) (e :: es) [] pos) (tCB r ta) (vcall w t) := ⟨pe_callTy hc hg hm hv ha.pe hn hdb he hpl, runN hw ha.ok⟩
/-- displays -/
def vlst (t : TVA) : TV := fun env C => t env fun ds e1 => ds.length ≤ 16777216 ∧ C (.lst true ds) e1
def vtup (t : TVA) : TV := fun env C => t env fun ds e1 => ds.length ≤ 16777216 ∧ C (.tup ds) e1
theorem ve_lst (ha : VA X es ta t) : VE X (.List es pos) (tLst ta) (vlst t) := by
  obtain ⟨h1, h2⟩ := ha
  refine ⟨pe_lst h1, fun H0 env fr σ H C Q r0 ht k => h2 H0 env fr σ H _ _ r0 ht fun ds e1 vs H1 c1 hl r1 => ⟨by rw [← hl, sizeLine_eq]; exact c1.1, fun p hp => ?_⟩⟩
  have s1 := r1.2
  rw [List.append_assoc] at s1
  exact k _ e1 (.ref p) _ c1.2 ⟨r1.1, s1.newL hl hp⟩
theorem ve_tup {x1} (ha : VA X es ta t) : VE X (.Tuple es x1 pos) (tTup ta) (vtup t) := by
  obtain ⟨h1, h2⟩ := ha
  refine ⟨pe_tup h1, fun H0 env fr σ H C Q r0 ht k => h2 H0 env fr σ H _ _ r0 ht fun ds e1 vs H1 c1 hl r1 => ⟨by rw [← hl, sizeLine_eq]; exact c1.1, fun p hp => ?_⟩⟩
  have s1 := r1.2
  rw [List.append_assoc] at s1
  exact k _ e1 (.ref p) _ c1.2 ⟨r1.1, s1.newT hl hp⟩

/-! ### tests, and, or, not, if -/
def vtB (t : TV) : TVT := fun env C => t env fun d e1 => match d with
  | .bl b => C b e1
  | _ => False
def vtAnd (t u : TVT) : TVT := fun env C => t env fun b e1 => if b = true then u e1 C else C false e1
def vtOr (t u : TVT) : TVT := fun env C => t env fun b e1 => if b = true then C true e1 else u e1 C
def vtNot (t : TVT) : TVT := fun env C => t env fun b e1 => C (!b) e1
end
end VL
/-! tests, statements, loops, comprehensions, defs and calls -/
namespace VL
open PySem PySem.Spec PyProof.Rows L2

/-! ### tests -/
def wBool (f : D → (Bool → Prop) → Prop) (t : TV) : TVT := fun env C => t env fun d e1 => f d fun b => C b e1
def isBl : D → (Bool → Prop) → Prop
  | .bl b, C => C b
  | _, _ => False
/-- a value's truth -/
def wTru : D → (Bool → Prop) → Prop
  | .non, C => C false
  | .bl b, C => C b
  | .int i, C => C (i != 0)
  | .str y, C => y.length ≤ 16777216 ∧ C ((y.length : Int) != 0)
  | .lst _ xs, C => C (!xs.isEmpty)
  | .tup xs, C => C (!xs.isEmpty)
  | _, _ => False
section
variable {X : Cx} {a b c : Expr} {te tf : TE} {tt uu : TT} {ta tb : TV} {pos : Pos} {rest : List Expr}
/-- a value's truth as a test -/
def tTru' (K : PySem.W.Frag) (ta : TE) : TT := fun σ H Q => ta σ H fun x H' => ∃ k, TruV K x H' k ∧ Q k H'
theorem isEmpty_len {α β : Type} {a : List α} {b : List β} (h : a.length = b.length) : a.isEmpty = b.isEmpty := by
  cases a <;> cases b <;> first | rfl | cases h
theorem vt_val (h : VE X a te ta) (he : ∀ whole, isTrue a X.env whole = (do let v ← whole; standAt a.pos; holding [v] (truthy v)) := by intro _; rfl) : VT X a (tB te) (wBool isBl ta) := by
  obtain ⟨h1, h2⟩ := h
  refine ⟨pt_val h1 he, fun H0 env fr σ H C Q r ht k => h2 H0 env fr σ H _ _ r ht fun d e1 v H1 c1 r1 => ?_⟩
  cases d with
  | bl b =>
    obtain rfl := Option.some.inj r1.2.is_bl
    exact ⟨b, rfl, k b e1 H1 c1 ⟨r1.1, r1.2.drop1⟩⟩
  | _ => exact (show False from c1).elim
theorem vt_tru (h : VE X a te ta) (he : ∀ whole, isTrue a X.env whole = (do let v ← whole; standAt a.pos; holding [v] (truthy v)) := by intro _; rfl) : VT X a (tTru' X.K te) (wBool wTru ta) := by
  obtain ⟨h1, h2⟩ := h
  refine ⟨pt_truth h1 he, fun H0 env fr σ H C Q r ht k => h2 H0 env fr σ H _ _ r ht fun d e1 v H1 c1 r1 => ?_⟩
  have k' : ∀ b, C b e1 → Q b H1 := fun b c => k b e1 H1 c ⟨r1.1, r1.2.drop1⟩
  cases d with
  | bl b =>
    obtain rfl := Option.some.inj r1.2.is_bl
    exact ⟨b, rfl, k' _ c1⟩
  | non =>
    obtain rfl := Option.some.inj r1.2.is_non
    exact ⟨false, rfl, k' _ c1⟩
  | int i =>
    obtain rfl := Option.some.inj r1.2.is_int
    exact ⟨_, rfl, k' _ c1⟩
  | str z =>
    obtain rfl := Option.some.inj r1.2.is_str
    exact ⟨_, ⟨by rw [sizeLine_eq]; exact c1.1, rfl⟩, k' _ c1.2⟩
  | lst o xs =>
    obtain ⟨p, ws, e, hp, hl, _⟩ := r1.2.readL
    obtain rfl := Option.some.inj e
    refine ⟨_, .inl ⟨ws, SqL.of hp, rfl⟩, k' _ ?_⟩
    rw [← isEmpty_len hl]; exact c1
  | tup xs =>
    obtain ⟨p, ws, e, hp, hl, _⟩ := r1.2.readT
    obtain rfl := Option.some.inj e
    refine ⟨_, .inr (.inl ⟨ws, hp, rfl⟩), k' _ ?_⟩
    rw [← isEmpty_len hl]; exact c1
  | _ => exact (show False from c1).elim
/-- a comparison as a test -/
theorem vt_cmp {op : CmpOp} {r : R2} {w : W2} (ho : OpR X (compareOp op) r) (hw : Ok2 X.K r w) (ha : VE X a te ta) (hb : VE X b tf tb) (hm : behindInMarks op b = false) : VT X (.Compare a [op] [b] pos) (tTest (tOp r te tf)) (wBool isBl (vbin w ta tb)) := by
  obtain ⟨h1, h2⟩ := ha
  obtain ⟨h3, h4⟩ := hb
  refine ⟨pt_cmpR ho h1 h3 hm, fun H0 env fr σ H C Q r0 ht k => run2 hw h2 h4 H0 env fr σ H _ _ r0 ht fun d e1 v H1 c1 r1 => ?_⟩
  cases d with
  | bl b =>
    obtain rfl := Option.some.inj r1.2.is_bl
    exact ⟨b, rfl, k b e1 H1 c1 ⟨r1.1, r1.2.drop1⟩⟩
  | _ => exact (show False from c1).elim
/-- and, or, not as tests -/
structure VW (X : Cx) (e : Expr) (tt : TT) (t : TVT) : Prop where
  pe : PW X e tt
  ok : BOk X.K tt t
variable {t u : TVT}
theorem vw_and1 (h : VT X a tt t) : VW X (.BoolOp .And [a] pos) tt t := ⟨pw_and1 h.pe, h.ok⟩
theorem vw_or1 (h : VT X a tt t) : VW X (.BoolOp .Or [a] pos) tt t := ⟨pw_or1 h.pe, h.ok⟩
theorem vw_and (h : VT X a tt t) (h' : VW X (.BoolOp .And (b :: rest) pos) uu u) : VW X (.BoolOp .And (a :: b :: rest) pos) (tAnd tt uu) (vtAnd t u) := by
  obtain ⟨h1, h2⟩ := h
  obtain ⟨h3, h4⟩ := h'
  refine ⟨pw_and h1 h3, fun H0 env fr σ H C Q r ht k => h2 H0 env fr σ H _ _ r ht fun b e1 H1 c1 r1 => ?_⟩
  cases b with
  | true => exact h4 H0 e1 fr σ H1 _ _ r1 c1 k
  | false => exact k false e1 H1 c1 r1
theorem vw_or (h : VT X a tt t) (h' : VW X (.BoolOp .Or (b :: rest) pos) uu u) : VW X (.BoolOp .Or (a :: b :: rest) pos) (tOr tt uu) (vtOr t u) := by
  obtain ⟨h1, h2⟩ := h
  obtain ⟨h3, h4⟩ := h'
  refine ⟨pw_or h1 h3, fun H0 env fr σ H C Q r ht k => h2 H0 env fr σ H _ _ r ht fun b e1 H1 c1 r1 => ?_⟩
  cases b with
  | true => exact k true e1 H1 c1 r1
  | false => exact h4 H0 e1 fr σ H1 _ _ r1 c1 k
theorem VW.vt (h : VW X a tt t) : VT X a tt t := ⟨h.pe.pt, h.ok⟩
theorem vt_not (h : VT X a tt t) : VT X (.UnaryOp .Not a pos) (tNot tt) (vtNot t) := by
  obtain ⟨h1, h2⟩ := h
  exact ⟨pt_not h1, fun H0 env fr σ H C Q r ht k => h2 H0 env fr σ H _ _ r ht fun b e1 H1 c1 r1 => k (!b) e1 H1 c1 r1⟩
/-- and, or, not as values (all but the last a bool) -/
def vand (t u : TV) : TV := fun env C => t env fun d e1 => match d with
  | .bl b => if b = true then u e1 C else C (.bl false) e1
  | _ => False
def vor (t u : TV) : TV := fun env C => t env fun d e1 => match d with
  | .bl b => if b = true then C (.bl true) e1 else u e1 C
  | _ => False
def vnot (t : TV) : TV := fun env C => t env fun d e1 => match d with
  | .bl b => C (.bl (!b)) e1
  | _ => False
theorem ve_one {op} (h : VE X a te ta) : VE X (.BoolOp op [a] pos) te ta := ⟨pe_one h.pe, h.ok⟩
theorem ve_and (h : VE X a te ta) (h' : VE X (.BoolOp .And (b :: rest) pos) tf tb) : VE X (.BoolOp .And (a :: b :: rest) pos) (tAndV te tf) (vand ta tb) := by
  obtain ⟨h1, h2⟩ := h
  obtain ⟨h3, h4⟩ := h'
  refine ⟨pe_and h1 h3, fun H0 env fr σ H C Q r ht k => h2 H0 env fr σ H _ _ r ht fun d e1 v H1 c1 r1 => ?_⟩
  cases d with
  | bl b =>
    obtain rfl := Option.some.inj r1.2.is_bl
    have r2 : Rep X.K H0 H1 e1 σ fr := ⟨r1.1, r1.2.drop1⟩
    refine ⟨b, rfl, ?_⟩
    cases b with
    | true => exact h4 H0 e1 fr σ H1 _ _ r2 c1 k
    | false => exact k _ e1 (.bl false) H1 c1 ⟨r2.1, r2.2.scal rfl⟩
  | _ => exact (show False from c1).elim
theorem ve_or (h : VE X a te ta) (h' : VE X (.BoolOp .Or (b :: rest) pos) tf tb) : VE X (.BoolOp .Or (a :: b :: rest) pos) (tOrV te tf) (vor ta tb) := by
  obtain ⟨h1, h2⟩ := h
  obtain ⟨h3, h4⟩ := h'
  refine ⟨pe_or h1 h3, fun H0 env fr σ H C Q r ht k => h2 H0 env fr σ H _ _ r ht fun d e1 v H1 c1 r1 => ?_⟩
  cases d with
  | bl b =>
    obtain rfl := Option.some.inj r1.2.is_bl
    have r2 : Rep X.K H0 H1 e1 σ fr := ⟨r1.1, r1.2.drop1⟩
    refine ⟨b, rfl, ?_⟩
    cases b with
    | true => exact k _ e1 (.bl true) H1 c1 ⟨r2.1, r2.2.scal rfl⟩
    | false => exact h4 H0 e1 fr σ H1 _ _ r2 c1 k
  | _ => exact (show False from c1).elim
theorem ve_not (h : VE X a te ta) : VE X (.UnaryOp .Not a pos) (tNotV te) (vnot ta) := by
  obtain ⟨h1, h2⟩ := h
  refine ⟨pe_not h1, fun H0 env fr σ H C Q r ht k => h2 H0 env fr σ H _ _ r ht fun d e1 v H1 c1 r1 => ?_⟩
  cases d with
  | bl b =>
    obtain rfl := Option.some.inj r1.2.is_bl
    exact ⟨b, rfl, k _ e1 (.bl (!b)) H1 c1 ⟨r1.1, r1.2.drop1.scal rfl⟩⟩
  | _ => exact (show False from c1).elim
def vif (t : TVT) (ta tb : TV) : TV := fun env C => t env fun b e1 => if b = true then ta e1 C else tb e1 C
theorem ve_if (hc : VT X c tt t) (ha : VE X a te ta) (hb : VE X b tf tb) : VE X (.IfExp c a b pos) (tIf tt te tf) (vif t ta tb) := by
  obtain ⟨h1, h2⟩ := hc
  obtain ⟨h3, h4⟩ := ha
  obtain ⟨h5, h6⟩ := hb
  refine ⟨pe_ifExp h1 h3 h5, fun H0 env fr σ H C Q r ht k => h2 H0 env fr σ H _ _ r ht fun b e1 H1 c1 r1 => ?_⟩
  cases b with
  | true => exact h4 H0 e1 fr σ H1 _ _ r1 c1 k
  | false => exact h6 H0 e1 fr σ H1 _ _ r1 c1 k
end

/-! ### statements -/
structure EndV where
  nx : List D → Prop
  rt : D → List D → Prop
  bk : List D → Prop := fun _ => False
  ct : List D → Prop := fun _ => False
abbrev TSV := EndV → List D → Prop
def Fx (FX : List Nat) (σ0 σ : L2.St) : Prop := ∀ i ∈ FX, σ[i]? = σ0[i]?
structure EndOk (K : PySem.W.Frag) (FX : List Nat) (σ0 : L2.St) (H0 : Hp) (fr : List En) (D : EndV) (E : Ends) : Prop where
  nx : ∀ env σ H, D.nx env → Fx FX σ0 σ → Rep K H0 H env σ fr → E.nx σ H
  rt : ∀ d env v σ H, D.rt d env → Fx FX σ0 σ → Rep K H0 H env σ ((d, some v) :: fr) → E.rt v H
  bk : ∀ env σ H, D.bk env → Fx FX σ0 σ → Rep K H0 H env σ fr → E.bk σ H
  ct : ∀ env σ H, D.ct env → Fx FX σ0 σ → Rep K H0 H env σ fr → E.ct σ H
def StepOk (X : Cx) (FX : List Nat) (ts : TS) (t : TSV) : Prop := ∀ (H0 : Hp) (env : List D) (fr : List En) (σ σ0 : L2.St) (H : Hp) (D : EndV) (E : Ends), Fx FX σ0 σ → Rep X.K H0 H env σ fr → t D env → EndOk X.K FX σ0 H0 fr D E → ts E σ H
structure VS (X : Cx) (FX : List Nat) (st : Stmt) (t : TSV) : Prop where
  ex : ∃ ts : TS, PS X st ts ∧ StepOk X FX ts t
structure VSs (X : Cx) (FX : List Nat) (st : List Stmt) (t : TSV) : Prop where
  ex : ∃ ts : TS, PSs X st ts ∧ StepOk X FX ts t
/-- targets: which slots they store -/
abbrev TGV := D → List D → (List D → Prop) → Prop
def AgreeBut (ts : List Nat) (σ σ' : L2.St) : Prop := σ'.length = σ.length ∧ ∀ i, i ∉ ts → σ'[i]? = σ[i]?
def GOk (K : PySem.W.Frag) (gt : TG) (ts : List Nat) (g : TGV) : Prop := ∀ (H0 : Hp) (env : List D) (fr : List En) (σ : L2.St) (H : Hp) (d : D) (v : V) (C : List D → Prop) (Q : L2.St → Hp → Prop), Rep K H0 H env σ ((d, some v) :: fr) → g d env C →
    (∀ env' σ' H', C env' → AgreeBut ts σ σ' → Rep K H0 H' env' σ' fr → Q σ' H') → gt v σ H Q
structure VG (X : Cx) (tg : Expr) (gt : TG) (ts : List Nat) (g : TGV) : Prop where
  pe : PG X tg gt
  ok : GOk X.K gt ts g
abbrev TGsV := List D → List D → (List D → Prop) → Prop
def GsOk (K : PySem.W.Frag) (gt : TGs) (ts : List Nat) (g : TGsV) : Prop := ∀ (H0 : Hp) (env : List D) (fr : List En) (σ : L2.St) (H : Hp) (ds : List D) (vs : List V) (C : List D → Prop) (Q : L2.St → Hp → Prop), ds.length = vs.length → Rep K H0 H env σ (ens ds vs ++ fr) → g ds env C →
    (∀ env' σ' H', C env' → AgreeBut ts σ σ' → Rep K H0 H' env' σ' fr → Q σ' H') → gt vs σ H Q
structure VGs (X : Cx) (tgs : List Expr) (gt : TGs) (ts : List Nat) (g : TGsV) : Prop where
  pe : PGs X tgs gt
  ok : GsOk X.K gt ts g

def gvName (i : Nat) : TGV := fun d env C => C (env.set i d)
def gvNil : TGsV := fun ds env C => ds = [] ∧ C env
def gvCons (g : TGV) (u : TGsV) : TGsV := fun ds env C => match ds with
  | d :: r => g d env fun e1 => u r e1 C
  | [] => False
def gvTup (n : Nat) (u : TGsV) : TGV := fun d env C => match d with
  | .tup xs => xs.length = n ∧ u xs env C
  | _ => False
def tvNext : TSV := fun D env => D.nx env
def tvSeq (t u : TSV) : TSV := fun D env => t { D with nx := u D } env
def tvDrop (t : TV) : TSV := fun D env => t env fun _ e1 => D.nx e1
def tvRet (t : TV) : TSV := fun D env => t env D.rt
def tvRetN : TSV := fun D env => D.rt .non env
def tvIf (c : TVT) (t u : TSV) : TSV := fun D env => c env fun b e1 => if b = true then t D e1 else u D e1
def tvNever : TSV := fun _ _ => False
def tvAsg (t : TV) (g : TGV) : TSV := fun D env => t env fun d e1 => g d e1 D.nx
def tvBreak : TSV := fun D env => D.bk env
def tvCont : TSV := fun D env => D.ct env
def tvPar (i j : Nat) (t : TVA) : TSV := fun D env => t env fun ds e1 => match ds with
  | [a, b] => D.nx ((e1.set i a).set j b)
  | _ => False
section
variable {X : Cx} {FX : List Nat} {st : Stmt} {sts rest : List Stmt} {t u : TSV} {e c : Expr} {ee : TE} {te : TV} {pos : Pos} {x : Str}
theorem Fx.trans_agree {σ0 σ σ' : L2.St} {ts : List Nat} (h : Fx FX σ0 σ) (a : AgreeBut ts σ σ') (d : ∀ i ∈ FX, i ∉ ts) : Fx FX σ0 σ' := fun i hi => (a.2 i (d i hi)).trans (h i hi)
theorem vg_name (i : Nat) (h : PG X (.Name x pos) (gName i)) : VG X (.Name x pos) (gName i) [i] (gvName i) := by
  refine ⟨h, fun H0 env fr σ H d v C Q r hg k => ?_⟩
  refine k _ (σ.set i (some v)) H hg ⟨by simp, fun j hj => by rw [List.getElem?_set_ne (fun z => hj (by simp [z]))]⟩ ?_
  by_cases hi : i < env.length
  · have r' : Rep X.K H0 H env σ fr := ⟨r.1, r.2.drop1⟩
    obtain ⟨d0, e0⟩ : ∃ d0, env[i]? = some d0 := ⟨_, List.getElem?_eq_getElem hi⟩
    obtain ⟨ov, rs, h1, h2, h3, _⟩ := r.focus e0
    have s := h2.drop1
    exact h3 H0 H d (some v) fr s
  · rw [List.set_eq_of_length_le (Nat.le_of_not_lt hi), List.set_eq_of_length_le (by rw [← r.1]; exact Nat.le_of_not_lt hi)]
    exact ⟨r.1, r.2.drop1⟩
theorem vgs_nil : VGs X [] gNil [] gvNil := by
  refine ⟨pgs_nil, fun H0 env fr σ H ds vs C Q hl r hg k => ?_⟩
  obtain ⟨rfl, hg⟩ := hg
  cases vs with
  | nil => exact ⟨rfl, k env σ H hg ⟨rfl, fun _ _ => rfl⟩ r⟩
  | cons _ _ => cases hl
theorem vgs_cons {es : List Expr} {ts us : List Nat} {gt : TG} {gts : TGs} {g : TGV} {gs : TGsV} (h1 : VG X e gt ts g) (h2 : VGs X es gts us gs)
    (hs : (assignEach (e :: es) X.env).map (·.2) = assign e X.env :: (assignEach es X.env).map (·.2) := by rfl) : VGs X (e :: es) (gCons gt gts) (ts ++ us) (gvCons g gs) := by
  obtain ⟨a1, a2⟩ := h1
  obtain ⟨b1, b2⟩ := h2
  refine ⟨pgs_cons a1 b1 hs, fun H0 env fr σ H ds vs C Q hl r hg k => ?_⟩
  cases ds with
  | nil => exact hg.elim
  | cons d ds =>
    cases vs with
    | nil => cases hl
    | cons v vs =>
      refine ⟨v, vs, rfl, a2 H0 env (ens ds vs ++ fr) σ H d v _ _ r hg fun e1 σ1 H1 c1 g1 r1 => ?_⟩
      exact b2 H0 e1 fr σ1 H1 ds vs C Q (by simpa using hl) r1 c1 fun e2 σ2 H2 c2 g2 r2 => k e2 σ2 H2 c2 ⟨g2.1.trans g1.1, fun i hi => (g2.2 i fun z => hi (List.mem_append_right _ z)).trans (g1.2 i fun z => hi (List.mem_append_left _ z))⟩ r2
theorem vg_tup {es : List Expr} {k : Nat} {ts : List Nat} {gts : TGs} {gs : TGsV} {n : Nat} (hc : X.calm = true) (h : VGs X es gts ts gs)
    (hn : (assignEach es X.env).length = n := by rfl) (hst : (assignEach es X.env).findIdx? (·.1) = none := by rfl) : VG X (.Tuple es k pos) (gTup X.K n gts) ts (gvTup n gs) := by
  obtain ⟨a1, a2⟩ := h
  refine ⟨pg_tup hc a1 hn hst, fun H0 env fr σ H d v C Q r hg kk => ?_⟩
  cases d with
  | tup xs =>
    obtain ⟨p, ws, e1, ht, hl, s⟩ := r.2.readT
    obtain rfl := Option.some.inj e1
    refine ⟨p, ws, rfl, ht, hl ▸ hg.1, a2 H0 env fr σ H xs ws C Q hl ⟨r.1, ?_⟩ hg.2 kk⟩
    rw [List.append_assoc]; exact s
  | _ => exact (show False from hg).elim
theorem vss_nil : VSs X FX [] tvNext := ⟨tNext, pss_nil, fun H0 env fr σ σ0 H D E f r h k => k.nx env σ H h f r⟩
theorem vss_cons (h1 : VS X FX st t) (h2 : VSs X FX rest u) : VSs X FX (st :: rest) (tvSeq t u) := by
  obtain ⟨ts, a1, a2⟩ := h1.ex
  obtain ⟨us, b1, b2⟩ := h2.ex
  refine ⟨_, pss_cons a1 b1, fun H0 env fr σ σ0 H D E f r h k => a2 H0 env fr σ σ0 H { D with nx := u D } { E with nx := us E } f r h ⟨fun e1 σ1 H1 c f1 r1 => b2 H0 e1 fr σ1 σ0 H1 D E f1 r1 c k, k.rt, k.bk, k.ct⟩⟩
theorem vss_one (h1 : VS X FX st t) : VSs X FX [st] t := by
  obtain ⟨ts, a1, a2⟩ := h1.ex
  exact ⟨_, pss_one a1, a2⟩
theorem vs_pass : VS X FX (.Pass pos) tvNext := ⟨tNext, ps_pass, fun H0 env fr σ σ0 H D E f r h k => k.nx env σ H h f r⟩
theorem vs_break : VS X FX (.Break pos) tvBreak := ⟨tBreak, ps_break, fun H0 env fr σ σ0 H D E f r h k => k.bk env σ H h f r⟩
theorem vs_continue : VS X FX (.Continue pos) tvCont := ⟨tCont, ps_continue, fun H0 env fr σ σ0 H D E f r h k => k.ct env σ H h f r⟩
theorem vs_never : VS X FX st tvNever := ⟨tNever, ps_never, fun H0 env fr σ σ0 H D E f r h k => h.elim⟩
theorem vss_never : VSs X FX sts tvNever := ⟨tNever, pss_never, fun H0 env fr σ σ0 H D E f r h k => h.elim⟩
theorem vs_expr (h : VE X e ee te) (hs : swapsWith e none pos.line X.env = pure false := by rfl) : VS X FX (.Expr e pos) (tvDrop te) := by
  obtain ⟨a1, a2⟩ := h
  exact ⟨_, ps_expr a1 hs, fun H0 env fr σ σ0 H D E f r h k => a2 H0 env fr σ H _ _ r h fun d e1 v H1 c1 r1 => k.nx e1 σ H1 c1 f ⟨r1.1, r1.2.drop1⟩⟩
theorem vs_ret (h : VE X e ee te) : VS X FX (.Return (some e) pos) (tvRet te) := by
  obtain ⟨a1, a2⟩ := h
  exact ⟨_, ps_ret a1, fun H0 env fr σ σ0 H D E f r h k => a2 H0 env fr σ H _ _ r h fun d e1 v H1 c1 r1 => k.rt d e1 v σ H1 c1 f r1⟩
theorem vs_retN : VS X FX (.Return none pos) tvRetN :=
  ⟨_, ps_retN, fun H0 env fr σ σ0 H D E f r h k => k.rt .non env .non σ H h f ⟨r.1, r.2.scal rfl⟩⟩
theorem vs_if {tt : TT} {tc : TVT} {a b : List Stmt} (hc : VT X c tt tc) (ha : VSs X FX a t) (hb : VSs X FX b u) : VS X FX (.If c a b pos) (tvIf tc t u) := by
  obtain ⟨a1, a2⟩ := hc
  obtain ⟨ts, b1, b2⟩ := ha.ex
  obtain ⟨us, c1, c2⟩ := hb.ex
  refine ⟨_, ps_if a1 b1 c1, fun H0 env fr σ σ0 H D E f r h k => a2 H0 env fr σ H _ _ r h fun b e1 H1 q r1 => ?_⟩
  cases b with
  | true => exact b2 H0 e1 fr σ σ0 H1 D E f r1 q k
  | false => exact c2 H0 e1 fr σ σ0 H1 D E f r1 q k
theorem vs_asg {tg : Expr} {gt : TG} {ts : List Nat} {g : TGV} (he : VE X e ee te) (hg : VG X tg gt ts g) (hd : ∀ i ∈ FX, i ∉ ts) (hs : swapsWithSole [tg] e pos.line X.env = pure false := by rfl) (hw : swappedStores [tg] e X.env = pure none := by rfl)
    (h1 : (assignEach [tg] X.env).map (·.2) = [assign tg X.env] := by rfl) : VS X FX (.Assign [tg] e pos) (tvAsg te g) := by
  obtain ⟨a1, a2⟩ := he
  obtain ⟨b1, b2⟩ := hg
  refine ⟨_, ps_asg a1 b1 hs hw h1, fun H0 env fr σ σ0 H D E f r h k => a2 H0 env fr σ H _ _ r h fun d e1 v H1 c1 r1 => ?_⟩
  exact b2 H0 e1 fr σ H1 d v _ _ r1 c1 fun e2 σ2 H2 c2 ag r2 => k.nx e2 σ2 H2 c2 (f.trans_agree ag hd) r2
theorem vs_set {i : Nat} {p' : Pos} (he : VE X e ee te) (hd : ∀ j ∈ FX, j ∉ [i]) (hp : ∀ t, PE X e t → PS X (.Assign [.Name x p'] e pos) (tAsg t (gName i))) (hg : PG X (.Name x p') (gName i)) : VS X FX (.Assign [.Name x p'] e pos) (tvAsg te (gvName i)) := by
  obtain ⟨a1, a2⟩ := he
  refine ⟨_, hp ee a1, fun H0 env fr σ σ0 H D E f r h k => a2 H0 env fr σ H _ _ r h fun d e1 v H1 c1 r1 => ?_⟩
  show E.nx (σ.set i (some v)) H1
  by_cases hi : i < e1.length
  · obtain ⟨d0, e0⟩ : ∃ d0, e1[i]? = some d0 := ⟨_, List.getElem?_eq_getElem hi⟩
    obtain ⟨ov, rs, h1, h2, h3, _⟩ := r1.focus e0
    exact k.nx _ _ H1 c1 (f.trans_agree ⟨by simp, fun j hj => by rw [List.getElem?_set_ne (fun z => hj (by simp [z]))]⟩ hd) (h3 H0 H1 d (some v) fr h2.drop1)
  · refine k.nx _ _ H1 c1 (f.trans_agree ⟨by simp, fun j hj => by rw [List.getElem?_set_ne (fun z => hj (by simp [z]))]⟩ hd) ?_
    rw [List.set_eq_of_length_le (Nat.le_of_not_lt hi), List.set_eq_of_length_le (by rw [← r1.1]; exact Nat.le_of_not_lt hi)]
    exact ⟨r1.1, r1.2.drop1⟩
/-- one slot stored from the frame's front -/
theorem Rep.store {K : PySem.W.Frag} {H0 H : Hp} {env : List D} {σ : L2.St} {fr : List En} {d : D} {v : V} (i : Nat) (r : Rep K H0 H env σ ((d, some v) :: fr)) : Rep K H0 H (env.set i d) (σ.set i (some v)) fr := by
  by_cases hi : i < env.length
  · obtain ⟨d0, e0⟩ : ∃ d0, env[i]? = some d0 := ⟨_, List.getElem?_eq_getElem hi⟩
    obtain ⟨ov, rs, h1, h2, h3, _⟩ := r.focus e0
    exact h3 H0 H d (some v) fr h2.drop1
  · rw [List.set_eq_of_length_le (Nat.le_of_not_lt hi), List.set_eq_of_length_le (by rw [← r.1]; exact Nat.le_of_not_lt hi)]
    exact ⟨r.1, r.2.drop1⟩
theorem vs_par {i j : Nat} {es : List Expr} {tt : TA} {ta : TVA} {tg : Expr} {e : Expr} (ha : VA X es tt ta) (hd : ∀ k ∈ FX, k ∉ [i, j]) (hp : ∀ t, PA X es t → PS X (.Assign [tg] e pos) (tPar i j t)) : VS X FX (.Assign [tg] e pos) (tvPar i j ta) := by
  obtain ⟨a1, a2⟩ := ha
  refine ⟨_, hp tt a1, fun H0 env fr σ σ0 H D E f r h k => a2 H0 env fr σ H _ _ r h fun ds e1 vs H1 c1 hl r1 => ?_⟩
  match ds, vs, hl, c1, r1 with
  | [a, b], [v, w], _, c1, r1 =>
    refine ⟨v, w, rfl, k.nx _ _ H1 c1 (f.trans_agree (ts := [i, j]) ⟨by simp, fun l hl => ?_⟩ hd) (Rep.store j (Rep.store i r1))⟩
    have h1 : i ≠ l := fun z => hl (by simp [z])
    have h2 : j ≠ l := fun z => hl (by simp [z])
    rw [List.getElem?_set_ne h2, List.getElem?_set_ne h1]
  | [], _, _, c1, _ => exact (show False from c1).elim
  | [_], _, _, c1, _ => exact (show False from c1).elim
  | _ :: _ :: _ :: _, _, _, c1, _ => exact (show False from c1).elim
end

/-! ### loops -/
structure Walk (K : PySem.W.Frag) (J : It) (items : List D) (G : Nat → List En) (H0 : Hp) : Prop where
  step : ∀ (j : Nat) (d : D) (H : Hp) (es : List En), items[j]? = some d → Sep K H0 H (G j ++ es) → J.go j H ∧ ∀ x H', J.yld j H x H' → Sep K H0 H' ((d, some x) :: (G (j + 1) ++ es))
  stop : ∀ (H : Hp) (es : List En), Sep K H0 H (G items.length ++ es) → J.stop items.length H
abbrev TVI := List D → (List D → List D → Prop) → Prop
def IOk (K : PySem.W.Frag) (wi : TI) (t : TVI) : Prop := ∀ (H0 : Hp) (env : List D) (fr : List En) (σ : L2.St) (H : Hp) (C : List D → List D → Prop) (R : It → Hp → Prop), Rep K H0 H env σ fr → t env C →
    (∀ items env' J H' G, C items env' → Walk K J items G H0 → Rep K H0 H' env' σ (G 0 ++ fr) → R J H') → wi σ H R
structure VI (X : Cx) (tg iter : Expr) (wi : TI) (t : TVI) : Prop where
  pe : PI X tg iter wi
  ok : IOk X.K wi t
structure ForP (items e1 : List D) (g : TGV) (tb : TSV) (DE : EndV) : Prop where
  ex : ∃ Iv : Nat → List D → Prop, Iv 0 e1 ∧
  (∀ (j : Nat) (d : D) (e : List D), items[j]? = some d → Iv j e → g d e fun e2 => tb { DE with nx := Iv (j + 1), ct := Iv (j + 1), bk := DE.nx } e2) ∧ ∀ e, Iv items.length e → DE.nx e
def tvFor (ti : TVI) (g : TGV) (tb : TSV) : TSV := fun DE env => ti env fun items e1 => ForP items e1 g tb DE
section
variable {X : Cx} {FX : List Nat} {tg iter : Expr} {body : List Stmt} {pos : Pos} {t : TSV}
theorem vs_for {wi : TI} {ti : TVI} {gt : TG} {g : TGV} {ts : List Nat} (hp : PassesOwn (model X.prog X.w) X.A X.env X.xe) (hc : X.calm = true) (hi : VI X tg iter wi ti) (hg : VG X tg gt ts g) (hb : VSs X FX body t) (hd : ∀ i ∈ FX, i ∉ ts)
    (hs : ∀ x, foldedSetIterable iter X.env x = pure x := by intro _; rfl) : VS X FX (.For tg iter body [] pos) (tvFor ti g t) := by
  obtain ⟨a1, a2⟩ := hi
  obtain ⟨b1, b2⟩ := hg
  obtain ⟨tb, c1, c2⟩ := hb.ex
  refine ⟨_, ps_for hp hc a1 b1 c1 hs, fun H0 env fr σ σ0 H DE E f r h k => a2 H0 env fr σ H _ _ r h fun items e1 J H1 G c w r1 => ?_⟩
  obtain ⟨Iv, i0, istep, iend⟩ := c.ex
  refine ⟨fun i m σ H => m = items.length - i ∧ i ≤ items.length ∧ ∃ env, Iv i env ∧ Fx FX σ0 σ ∧ Rep X.K H0 H env σ (G i ++ fr), ⟨items.length, by simp, Nat.zero_le _, e1, i0, f, r1⟩, ?_⟩
  rintro i m σ1 H1 ⟨rfl, hi, env1, iv, f1, r2⟩
  have s2 := r2.2
  rw [List.append_assoc] at s2
  by_cases hlt : i < items.length
  · obtain ⟨d, ed⟩ : ∃ d, items[i]? = some d := ⟨_, List.getElem?_eq_getElem hlt⟩
    obtain ⟨go, yl⟩ := w.step i d H1 _ ed s2
    refine .inr ⟨go, fun σ H => ∃ env, Iv (i + 1) env ∧ Fx FX σ0 σ ∧ Rep X.K H0 H env σ (G (i + 1) ++ fr), fun σ' H' q => ⟨items.length - (i + 1), by omega, rfl, hlt, q⟩, fun x H2 y => ?_⟩
    have s3 := yl x H2 y
    have r3 : Rep X.K H0 H2 env1 σ1 ((d, some x) :: (G (i + 1) ++ fr)) := ⟨r2.1, by rw [List.cons_append, List.append_assoc]; exact s3⟩
    refine b2 H0 env1 _ σ1 H2 d x _ _ r3 (istep i d env1 ed iv) fun e2 σ2 H3 c2' ag r4 => ?_
    refine c2 H0 e2 _ σ2 σ0 H3 _ _ (f1.trans_agree ag hd) r4 c2' ⟨fun e σ H q f r => ⟨e, q, f, r⟩, fun d e v σ H q f r => k.rt d e v σ H q f ⟨r.1, ?_⟩, fun e σ H q f r => k.nx e σ H q f ⟨r.1, ?_⟩, fun e σ H q f r => ⟨e, q, f, r⟩⟩
    · have s := r.2
      have s' : Sep X.K H0 H (((d, some v) :: G (i + 1)) ++ (fr ++ e.zip σ)) := by
        rw [List.cons_append, ← List.append_assoc]; exact s
      have s4 : Sep X.K H0 H (G (i + 1) ++ ((d, some v) :: (fr ++ e.zip σ))) := s'.perm (by
        rw [List.cons_append]
        exact List.perm_middle.symm)
      exact s4.dropL
    · have s := r.2
      rw [List.append_assoc] at s
      exact s.dropL
  · have e : i = items.length := by omega
    subst e
    refine .inl ⟨w.stop H1 _ s2, k.nx env1 σ1 H1 (iend env1 iv) f1 ⟨r2.1, s2.dropL⟩⟩
/-- over a list's value -/
def viSeq (t : TV) : TVI := fun env C => t env fun d e1 => match d with
  | .lst _ xs => C xs e1
  | _ => False
def viTup (t : TV) : TVI := fun env C => t env fun d e1 => match d with
  | .tup xs => C xs e1
  | _ => False
theorem ens_drop {ds : List D} {ws : List V} {j : Nat} {d : D} (hl : ds.length = ws.length) (e : ds[j]? = some d) : ∃ v, ws[j]? = some v ∧ ens (ds.drop j) (ws.drop j) = (d, some v) :: ens (ds.drop (j + 1)) (ws.drop (j + 1)) := by
  have h1 : j < ds.length := (List.getElem?_eq_some_iff.mp e).1
  have h2 : j < ws.length := hl ▸ h1
  refine ⟨ws[j], by simp [h2], ?_⟩
  have e1 : ds.drop j = d :: ds.drop (j + 1) := by
    rw [List.drop_eq_getElem_cons h1, (List.getElem?_eq_some_iff.mp e).2]
  have e2 : ws.drop j = ws[j] :: ws.drop (j + 1) := List.drop_eq_getElem_cons h2
  rw [e1, e2]; rfl
theorem walk_list {K : PySem.W.Frag} {H0 : Hp} {p : Addr} {xs : List D} {ws : List V} (hl : xs.length = ws.length) : Walk K (Itl K p) xs (fun j => (.nod (.lst ws), some (.ref p)) :: ens (xs.drop j) (ws.drop j)) H0 := by
  refine ⟨fun j d H es e s => ?_, fun H es s => ?_⟩
  · obtain ⟨v, e1, e2⟩ := ens_drop hl e
    obtain ⟨q, e3, hq⟩ := Sep.nodAt s
    obtain rfl := V.ref.inj (Option.some.inj e3)
    refine ⟨⟨ws, v, SqL.of hq, e1⟩, fun x H' y => ?_⟩
    obtain ⟨rfl, y⟩ := y
    have ex : v = x := Option.some.inj (e1.symm.trans (y ws (SqL.of hq)))
    subst ex
    rw [e2] at s
    exact s.perm (.swap _ _ _)
  · obtain ⟨q, e3, hq⟩ := Sep.nodAt s
    obtain rfl := V.ref.inj (Option.some.inj e3)
    exact ⟨ws, SqL.of hq, by omega⟩
theorem vi_seq {ee : TE} {te : TV} (h : VE X iter ee te) : VI X tg iter (iList X.K ee) (viSeq te) := by
  obtain ⟨a1, a2⟩ := h
  refine ⟨pi_list a1, fun H0 env fr σ H C R r ht k => a2 H0 env fr σ H _ _ r ht fun d e1 v H1 c1 r1 => ?_⟩
  cases d with
  | lst o xs =>
    obtain ⟨p, ws, e, hp, hl, s⟩ := r1.2.readL
    obtain rfl := Option.some.inj e
    refine ⟨p, rfl, ⟨ws, SqL.of hp⟩, k xs e1 _ H1 _ c1 (walk_list hl) ⟨r1.1, ?_⟩⟩
    simpa [List.append_assoc] using s
  | _ => exact (show False from c1).elim
theorem walk_tup {K : PySem.W.Frag} {H0 : Hp} {p : Addr} {xs : List D} {ws : List V} (hl : xs.length = ws.length) : Walk K (Itt K p) xs (fun j => (.ndt ws, some (.ref p)) :: ens (xs.drop j) (ws.drop j)) H0 := by
  refine ⟨fun j d H es e s => ?_, fun H es s => ?_⟩
  · obtain ⟨v, e1, e2⟩ := ens_drop hl e
    obtain ⟨q, e3, hq⟩ := Sep.ndtAt s
    obtain rfl := V.ref.inj (Option.some.inj e3)
    refine ⟨⟨ws, v, hq, e1⟩, fun x H' y => ?_⟩
    obtain ⟨rfl, y⟩ := y
    have ex : v = x := Option.some.inj (e1.symm.trans (y ws hq))
    subst ex
    rw [e2] at s
    exact s.perm (.swap _ _ _)
  · obtain ⟨q, e3, hq⟩ := Sep.ndtAt s
    obtain rfl := V.ref.inj (Option.some.inj e3)
    exact ⟨ws, hq, by omega⟩
theorem vi_tup {ee : TE} {te : TV} (h : VE X iter ee te) : VI X tg iter (iTup X.K ee) (viTup te) := by
  obtain ⟨a1, a2⟩ := h
  refine ⟨pi_tup a1, fun H0 env fr σ H C R r ht k => a2 H0 env fr σ H _ _ r ht fun d e1 v H1 c1 r1 => ?_⟩
  cases d with
  | tup xs =>
    obtain ⟨p, ws, e, hp, hl, s⟩ := r1.2.readTn
    obtain rfl := Option.some.inj e
    refine ⟨p, rfl, ⟨ws, hp⟩, k xs e1 _ H1 _ c1 (walk_tup hl) ⟨r1.1, ?_⟩⟩
    simpa [List.append_assoc] using s
  | _ => exact (show False from c1).elim
end
end VL
/-! while, comprehensions, ranges; defs and their calls -/
namespace VL
open PySem PySem.Spec PyProof.Rows L2

structure WhileP (c : TVT) (tb : TSV) (DE : EndV) (env : List D) : Prop where
  ex : ∃ W : Nat → List D → Prop, (∃ m, W m env) ∧ ∀ (m : Nat) (e : List D), W m e →
  c e fun b e1 => if b = true then tb { DE with nx := fun e' => ∃ m', m' < m ∧ W m' e', ct := fun e' => ∃ m', m' < m ∧ W m' e', bk := DE.nx } e1 else DE.nx e1
def tvWhile (c : TVT) (tb : TSV) : TSV := fun DE env => WhileP c tb DE env
section
variable {X : Cx} {FX : List Nat} {tg iter c : Expr} {body : List Stmt} {pos : Pos} {t : TSV}
theorem vs_while {tt : TT} {tc : TVT} (hp : PassesOwn (model X.prog X.w) X.A X.env X.xe) (hc : VT X c tt tc) (hb : VSs X FX body t) : VS X FX (.While c body [] pos) (tvWhile tc t) := by
  obtain ⟨a1, a2⟩ := hc
  obtain ⟨tb, c1, c2⟩ := hb.ex
  refine ⟨_, ps_while hp a1 c1, fun H0 env fr σ σ0 H DE E f r h k => ?_⟩
  obtain ⟨W, ⟨m0, w0⟩, turn⟩ := WhileP.ex h
  refine ⟨fun m σ H => ∃ env, W m env ∧ Fx FX σ0 σ ∧ Rep X.K H0 H env σ fr, ⟨m0, env, w0, f, r⟩, ?_⟩
  rintro m σ1 H1 ⟨e1, w1, f1, r1⟩
  refine a2 H0 e1 fr σ1 H1 _ _ r1 (turn m e1 w1) fun b e2 H2 q r2 => ?_
  cases b with
  | true =>
    refine ⟨fun σ' H' => ∃ m', m' < m ∧ ∃ env, W m' env ∧ Fx FX σ0 σ' ∧ Rep X.K H0 H' env σ' fr, fun σ' H' ⟨m', l, q⟩ => ⟨m', l, q⟩, ?_⟩
    exact c2 H0 e2 fr σ1 σ0 H2 _ _ f1 r2 q ⟨fun e σ H ⟨m', l, w⟩ f r => ⟨m', l, e, w, f, r⟩, k.rt, k.nx, fun e σ H ⟨m', l, w⟩ f r => ⟨m', l, e, w, f, r⟩⟩
  | false => exact k.nx e2 σ1 H2 q f1 r2
end

/-! ### comprehensions -/
theorem pm3 {α : Type} (a b c : List α) : (a ++ (b ++ c)).Perm (b ++ (a ++ c)) := by
  have h : ((a ++ b) ++ c).Perm ((b ++ a) ++ c) := List.perm_append_comm.append_right c
  rw [List.append_assoc, List.append_assoc] at h
  exact h
def wipeD (env : List D) : List Nat → List D
  | [] => env
  | v :: vs => (wipeD env vs).set v .junk
def backD : List Nat → List D → List D → List D
  | [], _, e => e
  | i :: vs, e1, e => backD vs e1 (match e1[i]? with | some d => e.set i d | none => e)
def saved (env : List D) (σ : L2.St) : List Nat → List En
  | [] => []
  | i :: vs => (env.getD i .junk, σ.getD i none) :: saved env σ vs
section
variable {K : PySem.W.Frag} {H0 H : Hp}
theorem wipeD_out {env : List D} {i : Nat} : ∀ {vs : List Nat}, i ∉ vs → (wipeD env vs)[i]? = env[i]?
  | [], _ => rfl
  | v :: vs, h => by
    unfold wipeD
    rw [List.getElem?_set_ne (fun z => h (by simp [z])), wipeD_out (fun z => h (List.mem_cons_of_mem _ z))]
theorem wipeD_length (env : List D) : ∀ vs : List Nat, (wipeD env vs).length = env.length
  | [] => rfl
  | v :: vs => by unfold wipeD; rw [List.length_set, wipeD_length env vs]
theorem getD_of {α : Type} {l : List α} {i : Nat} {a d : α} (h : l[i]? = some a) : l.getD i d = a := by simp [List.getD, h]
/-- the block's slots put by -/
theorem Rep.wipe {env : List D} {σ : L2.St} {fr : List En} (r : Rep K H0 H env σ fr) : ∀ {vs : List Nat}, vs.Nodup → Rep K H0 H (wipeD env vs) (L2.wipe σ vs) (saved env σ vs ++ fr)
  | [], _ => r
  | i :: vs, nd => by
    obtain ⟨hi, nd'⟩ := List.nodup_cons.mp nd
    have q := Rep.wipe r nd'
    unfold wipeD L2.wipe saved
    by_cases h : i < env.length
    · obtain ⟨d, ed⟩ : ∃ d, env[i]? = some d := ⟨_, List.getElem?_eq_getElem h⟩
      have e1 : (wipeD env vs)[i]? = some d := (wipeD_out hi).trans ed
      obtain ⟨ov, rest, h1, h2, h3, _⟩ := q.focus e1
      rw [wipe_out hi] at h1
      rw [getD_of ed, getD_of h1, List.cons_append]
      exact h3 H0 H .junk none ((d, ov) :: (saved env σ vs ++ fr)) h2.addJunk
    · have e1 : env.getD i .junk = .junk := by
        have : env[i]? = none := List.getElem?_eq_none (Nat.le_of_not_lt h)
        simp [List.getD, this]
      rw [e1, List.set_eq_of_length_le (by rw [wipeD_length]; exact Nat.le_of_not_lt h), List.set_eq_of_length_le (by rw [wipe_length, ← r.1]; exact Nat.le_of_not_lt h)]
      exact ⟨q.1, q.2.addJunk⟩
theorem wipe_set_back {σ : L2.St} : ∀ {vs : List Nat} {i : Nat} {ov : Option V}, i ∉ vs → σ[i]? = some ov → ((L2.wipe σ vs).set i none).set i ov = L2.wipe σ vs := fun {vs i ov} h e => by
  rw [List.set_set]
  exact set_same ((wipe_out h).trans e)
/-- .. and back -/
theorem Rep.unwipe {env : List D} {σ : L2.St} {fr : List En} : ∀ {vs : List Nat} {e : List D}, vs.Nodup → env.length = σ.length → Rep K H0 H e (L2.wipe σ vs) (saved env σ vs ++ fr) → Rep K H0 H (backD vs env e) σ fr
  | [], e, _, _, r => r
  | i :: vs, e, nd, hl, r => by
    obtain ⟨hi, nd'⟩ := List.nodup_cons.mp nd
    unfold backD
    unfold L2.wipe saved at r
    rw [List.cons_append] at r
    have rl : e.length = σ.length := by rw [r.1, List.length_set, wipe_length]
    by_cases h : i < env.length
    · obtain ⟨d, ed⟩ : ∃ d, env[i]? = some d := ⟨_, List.getElem?_eq_getElem h⟩
      obtain ⟨ov, eo⟩ : ∃ ov, σ[i]? = some ov := ⟨_, List.getElem?_eq_getElem (hl ▸ h)⟩
      obtain ⟨d0, e0⟩ : ∃ d0, e[i]? = some d0 := ⟨_, List.getElem?_eq_getElem (by rw [rl, ← hl]; exact h)⟩
      rw [getD_of ed, getD_of eo] at r
      rw [ed]
      obtain ⟨ov2, rest, h1, h2, h3, _⟩ := r.focus e0
      have s := h2.drop1
      have r2 := h3 H0 H d ov (saved env σ vs ++ fr) s
      rw [wipe_set_back hi eo] at r2
      exact Rep.unwipe nd' hl r2
    · have ee : env[i]? = none := List.getElem?_eq_none (Nat.le_of_not_lt h)
      rw [ee]
      rw [List.set_eq_of_length_le (by rw [wipe_length, ← hl]; exact Nat.le_of_not_lt h)] at r
      exact Rep.unwipe nd' hl ⟨r.1, r.2.drop1⟩
theorem agree_wipe {σ : L2.St} : ∀ {vs ts : List Nat} {σ' : L2.St}, (∀ i ∈ ts, i ∈ vs) → AgreeBut ts (L2.wipe σ vs) σ' → L2.wipe σ' vs = L2.wipe σ vs := by
  intro vs ts σ' hs a
  have idem : ∀ (i : Nat) (ws : List Nat) (τ : L2.St), i ∈ ws → i < τ.length → (L2.wipe τ ws)[i]? = some none := by
    intro i ws τ
    induction ws with
    | nil => intro h; cases h
    | cons v ws ih =>
      intro h hl
      unfold L2.wipe
      by_cases e : v = i
      · subst e
        rw [List.getElem?_set_self (by rw [wipe_length]; exact hl)]
      · rw [List.getElem?_set_ne e]
        rcases List.mem_cons.mp h with z | z
        · exact absurd z.symm e
        · exact ih z hl
  refine List.ext_getElem? fun i => ?_
  have hl : σ'.length = σ.length := by rw [a.1, wipe_length]
  by_cases hi : i ∈ vs
  · by_cases hlt : i < σ.length
    · rw [idem i vs σ' hi (by omega), idem i vs σ hi hlt]
    · rw [List.getElem?_eq_none (by rw [wipe_length]; omega), List.getElem?_eq_none (by rw [wipe_length]; omega)]
  · rw [wipe_out hi, a.2 i fun z => hi (hs i z)]
/-- a block's slots forgotten again -/
theorem Rep.rewipe {e : List D} {σ : L2.St} {fr : List En} (r : Rep K H0 H e σ fr) : ∀ (vs : List Nat), Rep K H0 H (wipeD e vs) (L2.wipe σ vs) fr
  | [] => r
  | i :: vs => by
    have q := Rep.rewipe r vs
    unfold wipeD L2.wipe
    by_cases h : i < (wipeD e vs).length
    · obtain ⟨d, ed⟩ : ∃ d, (wipeD e vs)[i]? = some d := ⟨_, List.getElem?_eq_getElem h⟩
      obtain ⟨ov, rest, h1, h2, h3, _⟩ := q.focus ed
      exact h3 H0 H .junk none fr h2.drop1.addJunk
    · rw [List.set_eq_of_length_le (Nat.le_of_not_lt h), List.set_eq_of_length_le (by rw [← q.1]; exact Nat.le_of_not_lt h)]
      exact q
end
/-- tests of a comprehension -/
structure VTs (X : Cx) (ifs : List Expr) (tt : TT) (t : TVT) : Prop where
  pe : PTs X ifs tt
  ok : BOk X.K tt t
def vtYes : TVT := fun env C => C true env
structure LcP (items e1 : List D) (g : TGV) (tt : TVT) (te : TV) (vs : List Nat) (C : D → List D → Prop) : Prop where
  ex : ∃ Iv : Nat → List D → List D → Prop, Iv 0 [] (wipeD e1 vs) ∧
  (∀ (j : Nat) (d : D) (acc e : List D), items[j]? = some d → Iv j acc e → g d e fun e2 => tt e2 fun b e3 => if b = true then te e3 fun y e4 => acc.length < 16777216 ∧ Iv (j + 1) (acc ++ [y]) (wipeD e4 vs) else Iv (j + 1) acc (wipeD e3 vs)) ∧
  ∀ acc e, Iv items.length acc e → C (.lst true acc) (backD vs e1 e)
def vLc (ti : TVI) (g : TGV) (tt : TVT) (te : TV) (vs : List Nat) : TV := fun env C => ti env fun items e1 => LcP items e1 g tt te vs C
section
variable {X : Cx} {FX : List Nat} {tg iter elt : Expr} {ifs : List Expr} {scope : Scope} {own : List (Str × Nat)} {pos : Pos} {wi : TI} {ti : TVI} {gt : TG} {g : TGV} {ts : List Nat} {tt : TT} {tv : TVT} {ee : TE} {te : TV}
theorem vts_nil : VTs X [] tYes vtYes := ⟨pts_nil, fun H0 env fr σ H C Q r h k => k true env H h r⟩
theorem vts_one {c : Expr} (h : VT X c tt tv) : VTs X [c] tt tv := ⟨pts_one h.pe, h.ok⟩
theorem lc_ok {K : PySem.W.Frag} (hi : IOk K wi ti) (hg : GOk K gt ts g) (ht : BOk K tt tv) (he : EOk K ee te) {vs : List Nat} (nd : vs.Nodup) (hs : ∀ i ∈ ts, i ∈ vs) : EOk K (tLc wi gt tt ee vs) (vLc ti g tv te vs) := by
  intro H0 env fr σ H C Q r h k
  refine hi H0 env fr σ H _ _ r h fun items e1 J H1 G c w r1 Dl hD => ?_
  obtain ⟨Iv, i0, istep, iend⟩ := c.ex
  -- the state at a turn: the new list on the frame, open
  let W : Nat → Hp → List D → List D → Prop := fun i H acc e => ∃ ws, acc.length = ws.length ∧ H Dl = some (.lst ws) ∧ Rep K H0 H e (L2.wipe σ vs) ((.hnd (.lst ws), some (.ref Dl)) :: (ens acc ws ++ (G i ++ (saved e1 σ vs ++ fr))))
  have start : W 0 (upd H1 Dl (.lst [])) [] (wipeD e1 vs) := by
    refine ⟨[], rfl, upd_same, ?_⟩
    have q : Rep K H0 H1 (wipeD e1 vs) (L2.wipe σ vs) (G 0 ++ (saved e1 σ vs ++ fr)) := by
      have q := r1.wipe (vs := vs) nd
      refine ⟨q.1, q.2.perm ?_⟩
      rw [← List.append_assoc, ← List.append_assoc]
      exact (List.perm_append_comm.append_right fr).append_right _
    exact ⟨q.1, q.2.newHnd hD rfl⟩
  refine ⟨fun i m H => m = items.length - i ∧ i ≤ items.length ∧ ∃ acc e, Iv i acc e ∧ W i H acc e, ⟨items.length, by simp, Nat.zero_le _, [], _, i0, start⟩, ?_⟩
  rintro i m H2 ⟨rfl, hi', acc, e, iv, ws, hl, hDl, r2⟩
  by_cases hlt : i < items.length
  · obtain ⟨d, ed⟩ : ∃ d, items[i]? = some d := ⟨_, List.getElem?_eq_getElem hlt⟩
    -- the iterator's hidden entries to the front
    have r3 : Sep K H0 H2 (G i ++ ((.hnd (.lst ws), some (.ref Dl)) :: (ens acc ws ++ (saved e1 σ vs ++ fr))) ++ e.zip (L2.wipe σ vs)) := by
      refine r2.2.perm (List.Perm.append_right _ ?_)
      exact (List.Perm.cons _ (pm3 _ _ _)).trans List.perm_middle.symm
    rw [List.append_assoc] at r3
    obtain ⟨go, yl⟩ := w.step i d H2 _ ed r3
    refine .inr ⟨go, fun H' => ∃ acc e, Iv (i + 1) acc e ∧ W (i + 1) H' acc e, fun H' q => ⟨items.length - (i + 1), by omega, rfl, hlt, q⟩, fun x H3 y => ?_⟩
    have s3 := yl x H3 y
    have r4 : Rep K H0 H3 e (L2.wipe σ vs) ((d, some x) :: ((.hnd (.lst ws), some (.ref Dl)) :: (ens acc ws ++ (G (i + 1) ++ (saved e1 σ vs ++ fr))))) := by
      refine ⟨r2.1, s3.perm ?_⟩
      rw [← List.append_assoc, List.cons_append]
      refine List.Perm.cons _ (List.Perm.append_right _ ?_)
      exact List.perm_middle.trans (List.Perm.cons _ (pm3 _ _ _))
    refine hg H0 e _ (L2.wipe σ vs) H3 d x _ _ r4 (istep i d acc e ed iv) fun e2 σ2 H4 c2 ag r5 => ⟨agree_wipe hs ag, ?_⟩
    have wv : L2.wipe σ2 vs = L2.wipe σ vs := agree_wipe hs ag
    refine ht H0 e2 _ σ2 H4 _ _ r5 c2 fun b e3 H5 c3 r6 => ?_
    cases b with
    | false =>
      have q := r6.rewipe vs
      rw [wv] at q
      obtain ⟨p, ep, hp⟩ := Sep.hndAt r6.2
      obtain rfl := V.ref.inj (Option.some.inj ep)
      exact ⟨acc, _, c3, ws, hl, hp, q⟩
    | true =>
      refine he H0 e3 _ σ2 H5 _ _ r6 c3 fun yd e4 yv H6 c4 r7 => ?_
      have s7 : Sep K H0 H6 ((.hnd (.lst ws), some (.ref Dl)) :: ((yd, some yv) :: (ens acc ws ++ (G (i + 1) ++ (saved e1 σ vs ++ fr)))) ++ e4.zip σ2) := r7.2.perm (.swap _ _ _)
      obtain ⟨p, ep, hp⟩ := Sep.hndAt s7
      obtain rfl := V.ref.inj (Option.some.inj ep)
      refine ⟨ws, hp, by rw [← hl, sizeLine_eq]; exact c4.1, acc ++ [yd], _, c4.2, ws ++ [yv], by simp [hl], upd_same, ?_⟩
      have s8 := Sep.write (o' := .lst (ws ++ [yv])) s7 rfl
      have r8 : Rep K H0 (upd H6 Dl (.lst (ws ++ [yv]))) e4 σ2 ((.hnd (.lst (ws ++ [yv])), some (.ref Dl)) :: (ens (acc ++ [yd]) (ws ++ [yv]) ++ (G (i + 1) ++ (saved e1 σ vs ++ fr)))) := by
        refine ⟨r7.1, s8.perm (List.Perm.append_right _ (List.Perm.cons _ ?_))⟩
        rw [ens_append hl, List.append_assoc]
        exact List.perm_middle.symm
      have q := r8.rewipe vs
      rw [wv] at q
      exact q
  · have ei : i = items.length := by omega
    subst ei
    have r3 : Sep K H0 H2 (G items.length ++ ((.hnd (.lst ws), some (.ref Dl)) :: (ens acc ws ++ (saved e1 σ vs ++ fr))) ++ e.zip (L2.wipe σ vs)) := by
      refine r2.2.perm (List.Perm.append_right _ ?_)
      exact (List.Perm.cons _ (pm3 _ _ _)).trans List.perm_middle.symm
    rw [List.append_assoc] at r3
    refine .inl ⟨w.stop H2 _ r3, ?_⟩
    have s4 := r3.dropL
    rw [List.cons_append, List.append_assoc] at s4
    have s5 : Sep K H0 H2 ((.lst true acc, some (.ref Dl)) :: ((saved e1 σ vs ++ fr) ++ e.zip (L2.wipe σ vs))) := s4.closeL hl
    have r5 : Rep K H0 H2 e (L2.wipe σ vs) (saved e1 σ vs ++ ((.lst true acc, some (.ref Dl)) :: fr)) := by
      refine ⟨r2.1, s5.perm ?_⟩
      rw [← List.cons_append]
      exact List.Perm.append_right _ List.perm_middle.symm
    exact k _ _ (.ref Dl) H2 (iend acc e iv) (Rep.unwipe nd r1.1 r5)
theorem ve_lc (hc : X.calm = true) (hN : X.N.Nodup) (hi : VI X tg iter wi ti) (ok : BlkOk X.N X.env.scope scope own)
    (hg : ∀ (s : Shared) (H : Hp) (C : Addr) (cl : List (Str × Addr)) (fp : List Addr), VG (X.blk s H scope (compEnvC scope cl C X.env) fp) tg gt ts g)
    (ht : ∀ (s : Shared) (H : Hp) (C : Addr) (cl : List (Str × Addr)) (fp : List Addr), VTs (X.blk s H scope (compEnvC scope cl C X.env) fp) ifs tt tv)
    (he : ∀ (s : Shared) (H : Hp) (C : Addr) (cl : List (Str × Addr)) (fp : List Addr), VE (X.blk s H scope (compEnvC scope cl C X.env) fp) elt ee te)
    (nd : (own.map (·.2)).Nodup := by decide) (hts : ∀ i ∈ ts, i ∈ own.map (·.2) := by decide) (hs : ∀ x, foldedSetIterable iter X.env x = pure x := by intro _; rfl) :
    VE X (.ListComp elt [⟨tg, iter, ifs, 0⟩] scope pos) (tLc wi gt tt ee (own.map (·.2))) (vLc ti g tv te (own.map (·.2))) :=
  ⟨pe_lc hc hN hi.pe ok (fun s H C cl fp => (hg s H C cl fp).pe) (fun s H C cl fp => (ht s H C cl fp).pe) (fun s H C cl fp => (he s H C cl fp).pe) hs,
    lc_ok hi.ok (hg X.s_0 X.H_0 0 [] []).ok (ht X.s_0 X.H_0 0 [] []).ok (he X.s_0 X.H_0 0 [] []).ok nd hts⟩
/-- y = [..] on one line -/
theorem vs_setLc {i : Nat} {y : Str} {py spos : Pos} (hc : X.calm = true) (hN : X.N.Nodup) (hy : X.N[i]? = some y) (hyl : X.env.scope.names.lookup y = some .local)
    (hsw : swapsWith (.ListComp elt [⟨tg, iter, ifs, 0⟩] scope pos) (some (.Name y py)) spos.line X.env = pure true) (hi : VI X tg iter wi ti) (ok : BlkOk X.N X.env.scope scope own)
    (hg : ∀ (s : Shared) (H : Hp) (C : Addr) (cl : List (Str × Addr)) (fp : List Addr), VG (X.blk s H scope (compEnvC scope cl C X.env) fp) tg gt ts g)
    (ht : ∀ (s : Shared) (H : Hp) (C : Addr) (cl : List (Str × Addr)) (fp : List Addr), VTs (X.blk s H scope (compEnvC scope cl C X.env) fp) ifs tt tv)
    (he : ∀ (s : Shared) (H : Hp) (C : Addr) (cl : List (Str × Addr)) (fp : List Addr), VE (X.blk s H scope (compEnvC scope cl C X.env) fp) elt ee te)
    (hd : ∀ j ∈ FX, j ∉ [i])
    (nd : (own.map (·.2)).Nodup := by decide) (hts : ∀ i ∈ ts, i ∈ own.map (·.2) := by decide) (hs : ∀ x, foldedSetIterable iter X.env x = pure x := by intro _; rfl) :
    VS X FX (.Assign [.Name y py] (.ListComp elt [⟨tg, iter, ifs, 0⟩] scope pos) spos) (tvAsg (vLc ti g tv te (own.map (·.2))) (gvName i)) := by
  have ok1 := lc_ok hi.ok (hg X.s_0 X.H_0 0 [] []).ok (ht X.s_0 X.H_0 0 [] []).ok (he X.s_0 X.H_0 0 [] []).ok nd hts
  refine ⟨_, ps_setLc hc hN hy hyl hsw hi.pe ok (fun s H C cl fp => (hg s H C cl fp).pe) (fun s H C cl fp => (ht s H C cl fp).pe) (fun s H C cl fp => (he s H C cl fp).pe) hs, fun H0 env fr σ σ0 H DE E f r h k => ok1 H0 env fr σ H _ _ r h fun d e1 v H1 c1 r1 => ?_⟩
  exact k.nx _ _ H1 c1 (f.trans_agree ⟨by simp, fun j hj => by rw [List.getElem?_set_ne (fun z => hj (by simp [z]))]⟩ hd) (r1.store i)
end

/-! ### ranges -/
def rngD (lo : Int) (n : Nat) : List D := (List.range n).map fun (i : Nat) => D.int (lo + (i : Int))
theorem rngD_get {lo : Int} {n j : Nat} {d : D} (h : (rngD lo n)[j]? = some d) : j < n ∧ d = .int (lo + (j : Int)) := by
  unfold rngD at h
  rw [List.getElem?_map] at h
  by_cases hj : j < n
  · rw [List.getElem?_range hj] at h
    exact ⟨hj, (Option.some.inj h).symm⟩
  · rw [List.getElem?_eq_none (by simpa using hj)] at h
    cases h
theorem rngD_length (lo : Int) (n : Nat) : (rngD lo n).length = n := by simp [rngD]
def viR1 (t : TVA) : TVI := fun env C => t env fun ds e1 => match ds with
  | [.int j] => -(2 ^ 62) ≤ j ∧ j < 2 ^ 62 ∧ C (rngD 0 j.toNat) e1
  | _ => False
def viR2 (t : TVA) : TVI := fun env C => t env fun ds e1 => match ds with
  | [.int i, .int j] => (-(2 ^ 62) ≤ i ∧ i < 2 ^ 62 ∧ -(2 ^ 62) ≤ j ∧ j < 2 ^ 62) ∧ C (rngD i (j - i).toNat) e1
  | _ => False
section
variable {X : Cx} {tg : Expr} {ta : TA} {tv : TVA} {p pos : Pos}
theorem walk_range {K : PySem.W.Frag} {H0 : Hp} (lo : Int) (n : Nat) : Walk K (Itr lo n) (rngD lo n) (fun _ => []) H0 := by
  refine ⟨fun j d H es e s => ?_, fun H es s => by rw [rngD_length]; exact Nat.le_refl _⟩
  obtain ⟨hj, rfl⟩ := rngD_get e
  refine ⟨hj, fun x H' y => ?_⟩
  obtain ⟨rfl, rfl⟩ := y
  exact Sep.scal s rfl
theorem vi_range1 {a : Expr} (hg : Gl X "range") (hm : X.mg "range" = none) (ha : VA X [a] ta tv) (hs : starEach [a] X.env = [(false, eval a X.env)] := by rfl) : VI X tg (.Call (.Name "range" p) [a] [] pos) (iRng1 ta) (viR1 tv) := by
  refine ⟨pi_range1 hg hm ha.pe hs, fun H0 env fr σ H C R r h k => ha.ok H0 env fr σ H _ _ r h fun ds e1 vs H1 c hl r1 => ?_⟩
  match ds, vs, hl, c, r1 with
  | [.int j], [v], _, c, r1 =>
    obtain rfl := Option.some.inj r1.2.is_int
    exact ⟨j, rfl, c.1, c.2.1, k _ e1 _ H1 _ c.2.2 (walk_range 0 j.toNat) ⟨r1.1, r1.2.drop1⟩⟩
theorem vi_range2 {a b : Expr} (hg : Gl X "range") (hm : X.mg "range" = none) (ha : VA X [a, b] ta tv) (hs : starEach [a, b] X.env = [(false, eval a X.env), (false, eval b X.env)] := by rfl) (hs2 : starEach [b] X.env = [(false, eval b X.env)] := by rfl) :
    VI X tg (.Call (.Name "range" p) [a, b] [] pos) (iRng2 ta) (viR2 tv) := by
  refine ⟨pi_range2 hg hm ha.pe hs hs2, fun H0 env fr σ H C R r h k => ha.ok H0 env fr σ H _ _ r h fun ds e1 vs H1 c hl r1 => ?_⟩
  match ds, vs, hl, c, r1 with
  | [.int i, .int j], [v, w], _, c, r1 =>
    have s1 : Sep X.K H0 H1 ((.int i, some v) :: ((.int j, some w) :: (fr ++ e1.zip σ))) := r1.2
    obtain rfl := Option.some.inj s1.is_int
    obtain rfl := Option.some.inj s1.drop1.is_int
    exact ⟨i, j, rfl, c.1, k _ e1 _ H1 _ c.2 (walk_range i (j - i).toNat) ⟨r1.1, s1.drop1.drop1⟩⟩
end
end VL
/-! promises of defs whose frames also know that no display is going on (repr wants it) -/
namespace VL
open PySem PySem.Spec PyProof.Rows L2

/-- room for k calls, and no display around -/
structure RG (k : Nat) (A : Around) : Prop where
  rm : Room k A
  gd : A.guards = some []
theorem RG.mono {j k : Nat} {A : Around} (r : RG k A) (h : j ≤ k) : RG j A := ⟨r.rm.mono h, r.gd⟩
theorem RG.down {k : Nat} {A : Around} (r : RG (k + 1) A) (env : Env) : RG k (A.deeper env) := ⟨r.rm.deeper env, r.gd⟩
theorem RG.hu {k : Nat} {A : Around} (r : RG k A) : A.units + 64 < cLine := r.rm.units

/-- a def keeps a promise, called with such room (nothing is raised) -/
structure FnG (P : Program) (w : World) (K : PySem.W.Frag) (mg : Str → Option Value) (base : Heap) (k : Nat) (f : Addr) (fd : FuncData) (ps : List Str) (sp : Sp) : Prop where
  len : ∀ vs H Q E, sp vs H Q E → vs.length = ps.length
  go : ∀ (A : Around) (outer : List Env) (s : Shared) (H : Hp) (args : Args) (us : List Value) (vs : List V) (Q : VK) (E : XK), RG k A → Env0 P w K mg base A outer s H → BindsTo s fd args (ps.zip us) → Vals vs us → sp vs H Q E →
    codeAny (model P w) A (.call (.ref f) args) (CR CX0 outer P w H s Q E) s
section
variable {P : Program} {w : World} {K : PySem.W.Frag} {mg : Str → Option Value} {base : Heap}
theorem FnG.up {j k : Nat} {f : Addr} {fd : FuncData} {ps : List Str} {sp : Sp} (F : FnG P w K mg base j f fd ps sp) (h : j ≤ k) : FnG P w K mg base k f fd ps sp :=
  ⟨F.len, fun A o s H args us vs Q E r => F.go A o s H args us vs Q E (r.mono h)⟩
theorem FnG.less {k : Nat} {f : Addr} {fd : FuncData} {ps : List Str} {sp sp' : Sp} (F : FnG P w K mg base k f fd ps sp) (h : ∀ vs H Q E, sp' vs H Q E → sp vs H Q E) : FnG P w K mg base k f fd ps sp' :=
  ⟨fun vs H Q E q => F.len vs H Q E (h _ _ _ _ q), fun A o s H args us vs Q E r e b v q => F.go A o s H args us vs Q E r e b v (h _ _ _ _ q)⟩
/-- by the body -/
theorem FnG.ofBody {x qual : Str} {params : Arguments} {body : List Stmt} {scope : Scope} {dvs : List V} {f : Addr} {fd : FuncData} {N ps : List Str} {k : Nat} {sp : Sp} (F : FunD K x qual params body scope dvs [] f fd) (S : FnScope N ps scope) (len : ∀ vs H Q E, sp vs H Q E → vs.length = ps.length)
    (hbody : ∀ (cdv : Value) (A : Around) (outer : List Env) (s : Shared) (H : Hp) (vs : List V) (Q : VK) (E : XK), RG k (A.deeper (envOfC qual scope s.heap.objs.size f cdv)) → sp vs H Q E →
      ∃ t, PSs (cxOf CX0 P w K mg base N qual scope f cdv A outer s H E) body t ∧ t { nx := fun _ H' => Q .non H', rt := Q } (L2.start N vs) H) : FnG P w K mg base (k + 1) f fd ps sp := by
  obtain ⟨oc, od, dV, kV, doc, pm, an, cdv, ct, osl, rfl, lk, hcd, _, _⟩ := F.ex
  refine ⟨len, fun A ou s H args us vs Q E room env0 bi rel prom => ?_⟩
  have hv := len _ _ _ _ prom
  have old : ∀ b o, base.get? b = some o → s.heap.get? b = some o := fun b o e => (env0.bs b o e).1
  have kin : K.In s.heap := env0.mod.kin.keeps old
  refine codeAny_call_function room.rm.depth (kin _ _ lk) rfl S.co S.gen rfl (PySem.W.codeRec_of kin hcd) (bi _ _ _ _ ?_)
  have kinds : ∀ y ∈ ps.zip us, scope.names.lookup y.1 = some .local ∨ (scope.names.lookup y.1 = some .cell ∧ ((cellsFrom (s.heap.objs.size + 1) scope.names []).lookup y.1).isSome = true) := by
    rintro ⟨n, v⟩ hy
    rcases S.par n (List.of_mem_zip hy).1 with q | q
    · exact .inl q
    · exact .inr ⟨q, PySem.W.cellsFrom_some _ _ _ (.inl q)⟩
  refine wpAny_newFunctionEnv_cells S.kind kinds fun en hen s1 made => ?_
  subst hen
  refine ⟨(env0.mod.nolimit.keeps old).keeps made.toInCall.keep, codeAny_func ?_⟩
  obtain ⟨t, body_ok, read⟩ := hbody cdv A ou s H vs Q E (room.down _) prom
  have inv : Inv (cxOf CX0 P w K mg base N qual scope f cdv A ou s H E) [] (L2.start N vs) H s1 := inv_start S room.rm.hd env0 hv rel made
  refine wpAny_mono (body_ok.run [] s1 (L2.start N vs) H _ inv read) (fun fl s' hs => ?_) fun e s' hs => hs
  cases fl with
  | ret u =>
    obtain ⟨v, σ', H', J, rv, q⟩ := hs
    exact ⟨v, H', J.os, J.bare, J.base, J.hok, rv, q⟩
  | next =>
    obtain ⟨σ', H', J, q⟩ := hs
    exact ⟨.non, H', J.os, J.bare, J.base, J.hok, rfl, q⟩
  | brk =>
    obtain ⟨_, _, _, q⟩ := hs
    exact q.elim
  | cont =>
    obtain ⟨_, _, _, q⟩ := hs
    exact q.elim
end
section
variable {X : Cx} {k : Nat} {f : Addr} {fd : FuncData} {ps : List Str} {sp : Sp} {dvs : List V} {ds : List Value} {x : Str} {p pos : Pos} {e : Expr} {es : List Expr} {t : TA}
theorem after_cr {pins : List (Addr × Obj)} {σ : L2.St} {H : Hp} {s s' : Shared} {Q : VK} {rs : Result} (I : Inv X pins σ H s) (h : CR CX0 X.stack X.prog X.w H s Q E0 rs s') :
    match rs with | .ok (.ret u) => EP X pins σ Q u s' | .ok _ => False | .error ex => X.xe ex s' := by
  cases rs with
  | error ex => exact (show False from h).elim
  | ok fl =>
    cases fl with
    | ret u => exact I.after h
    | next => exact h
    | brk => exact h
    | cont => exact h
theorem go_fn {pins : List (Addr × Obj)} {σ : L2.St} {H : Hp} {s : Shared} {Q : VK} {us : List Value} {vs : List V} (F : FnG X.prog X.w X.K X.mg X.base k f fd ps sp) (hr : RG k X.A) (hb : Binds X.K fd ps ds) (hd : Vals dvs ds)
    (I : Inv X pins σ H s) (r : Vals vs us) (h : sp (vs ++ dvs) H Q E0) : wpAny (model X.prog X.w) X.A (call (.ref f) us) (EP X pins σ Q) X.xe s := by
  have all := r.append hd
  have num : (us ++ ds).length = ps.length := all.length.symm.trans (F.len _ _ _ _ h)
  refine wpAny_call (codeAny_mono (F.go X.A X.stack s H ⟨us, []⟩ (us ++ ds) (vs ++ dvs) Q E0 hr I.env0 (hb s us I.kIn num) all h) fun rs s' hq => ?_)
  have q := after_cr I hq
  cases rs with
  | error ex => exact q
  | ok fl => cases fl <;> first | exact q | exact q.elim
theorem pe_callG (F : FnG X.prog X.w X.K X.mg X.base k f fd ps sp) (hr : RG k X.A) (hg : Gl X x) (hm : X.mg x = some (.ref f)) (hk : PySem.W.keepIn X.K (.ref f) = true) (hb : Binds X.K fd ps ds) (hd : Vals dvs ds)
    (ha : PA X (e :: es) t) (hdb : (x == ("__debug__" : Str)) = false := by decide) (he : starEach (e :: es) X.env = (false, eval e X.env) :: starEach es X.env := by rfl) (hpl : (backTo pos (starEach es X.env)).any (·.1) = false := by rfl) :
    PE X (.Call (.Name x p) (e :: es) [] pos) (tCall sp dvs E0 t) :=
  ⟨fun pins s σ H Q I h => wpAny_Call_Name_kw (ld_glob I hg hm (PySem.W.callWith_K (h₀ := X.base) I.ok.mod.kin hk (thn (ha.run pos pins s σ H _ I h) fun us s1 ⟨vs, H1, I1, r, q⟩ => ⟨I1.kIn, go_fn F hr hb hd I1 r q⟩) he hpl) hdb)⟩
theorem pe_callG0 (F : FnG X.prog X.w X.K X.mg X.base k f fd ps sp) (hr : RG k X.A) (hg : Gl X x) (hm : X.mg x = some (.ref f)) (hk : PySem.W.keepIn X.K (.ref f) = true) (hb : Binds X.K fd ps ds) (hd : Vals dvs ds)
    (hdb : (x == ("__debug__" : Str)) = false := by decide) : PE X (.Call (.Name x p) [] [] pos) (tCall sp dvs E0 tNil) :=
  ⟨fun pins s σ H Q I h => wpAny_Call_Name_kw (ld_glob I hg hm (PySem.W.callWith_K0 I.kIn hk (go_fn (us := []) F hr hb hd I .nil h)) hdb)⟩
end
/-! ### the law's call, at the heap behind the top -/
theorem call_law {P : Program} {w : World} {K : PySem.W.Frag} {mg mb : Str → Option Value} {k : Nat} {fa a : Addr} {fd : FuncData} {x : Str} {sp : Sp} {s₁ : Shared} {vs : List Value} {ns : List Int}
    (kin : K.In s₁.heap) (nsG : s₁.heap.Ns mainGlobals mg) (nsB : s₁.heap.Ns builtinsNs mb) (boot : ∀ x : Str, x ≠ "__name__" → mb x = bootBuiltins x) (lim : s₁.heap.NoLimit) (gens : s₁.gens = #[])
    (at_a : s₁.heap.get? a = some { cls := .type "list", data := .seq vs.toArray }) (hints : IntsAre vs ns) (size : ns.length ≤ sizeLine) (room : RG k callerA)
    (F : ∀ base : Heap, K.In base → base.Ns mainGlobals mg → FnG P w K mg base k fa fd [x] sp) (bi : ∀ (s : Shared) (u : Value), BindsTo s fd ⟨[u], []⟩ [(x, u)])
    (prom : ∀ H : Hp, SqL K H a (ns.map V.int) → sp [.ref a] H (fun v _ => v = .bl true) E0) :
    codeAny (model P w) callerA (.call (.ref fa) ⟨[.ref a], []⟩) (fun r s' => r = .ok (.ret (.bool true)) ∧ OldK s₁.heap s'.heap ∧ s'.os = s₁.os ∧ AllBare s'.gens) s₁ := by
  have rel := vals_ints hints
  have lens := hints.length
  -- H tracks the script alone, or nothing
  have main : ∀ H : Hp, (∀ b u, H b = some u → b = a ∧ u = .frz { cls := .type "list", data := .seq vs.toArray } (.lst (ns.map V.int)) ∧ K.lookup a = none) → SqL K H a (ns.map V.int) → HOk P w H s₁.heap →
      codeAny (model P w) callerA (.call (.ref fa) ⟨[.ref a], []⟩) (fun r s' => r = .ok (.ret (.bool true)) ∧ OldK s₁.heap s'.heap ∧ s'.os = s₁.os ∧ AllBare s'.gens) s₁ := by
    intro H only seq hok
    have notDict : ∀ {b : Addr} {o : Obj} {es : Array DictEntry} {ep : Nat}, s₁.heap.get? b = some o → o.data = .dict es ep → H b = none := by
      intro b o es ep e d
      cases q : H b with
      | none => rfl
      | some u =>
        obtain ⟨rfl, _⟩ := only b u q
        rw [at_a] at e
        cases e
        cases (show Data.seq vs.toArray _ = Data.dict es ep from d)
    have nsH : ∀ {b : Addr} {m : Str → Option Value}, s₁.heap.Ns b m → (hidT s₁.heap H).Ns b m := by
      rintro b m ⟨o, es, ep, e, d, r⟩
      exact ⟨o, es, ep, hidT_get e (notDict e d), d, r⟩
    have kinH : K.In (hidT s₁.heap H) := by
      intro b o e
      refine hidT_get (kin b o e) ?_
      cases q : H b with
      | none => rfl
      | some u =>
        obtain ⟨rfl, _, no⟩ := only b u q
        rw [no] at e
        cases e
    obtain ⟨mc, lim1, lim2⟩ := lim
    have md : Mod K mg (hidT s₁.heap H) := ⟨kinH, nsH nsG, ⟨mb, nsH nsB, boot⟩, ⟨mc, nsH lim1, lim2⟩⟩
    have en0 : Env0 P w K mg (hidT s₁.heap H) callerA [] s₁ H :=
      ⟨rfl, md, fun b o e => of_hidT e, Nat.le_of_eq (hidT_size _ _), trivial, (fun b hb => by cases hb), hok, .of_eq gens⟩
    refine codeAny_mono ((F _ kinH (nsH nsG)).go callerA [] s₁ H ⟨[.ref a], []⟩ [.ref a] [.ref a] _ _ room en0 (bi s₁ (.ref a)) (.cons rfl .nil) (prom H seq)) fun r s' h => ?_
    cases r with
    | error e => exact (show False from h).elim
    | ok fl =>
      cases fl with
      | ret u =>
        obtain ⟨v, H', os, bare, un, hok', r', q⟩ := h
        obtain rfl : v = .bl true := q
        obtain rfl : u = Value.bool true := r'
        refine ⟨rfl, OldK.of_keep fun b o e => ?_, os, bare⟩
        cases q : H b with
        | none => exact un.keep b o e q (fun z => by cases z) (fun z => by cases z)
        | some u =>
          obtain ⟨rfl, rfl, _⟩ := only b u q
          obtain ⟨e1, _⟩ := hok b _ q
          obtain ⟨e2, _⟩ := hok' b _ (un.frzs b _ _ q)
          rw [e] at e1
          rw [Option.some.inj e1]
          exact e2
      | next => exact (show False from h).elim
      | brk => exact (show False from h).elim
      | cont => exact (show False from h).elim
  cases hk : K.lookup a with
  | some o =>
    have e := kin a o hk
    rw [at_a] at e
    cases e
    exact main (fun _ => none) (fun b u q => by cases q) (.inr ⟨_, vs.toArray, _, hk, rfl, rfl, rfl, by rw [List.size_toArray, lens]; exact size, by simpa using rel⟩) fun b u q => by cases q
  | none =>
    have there : (fun b => if b = a then some (HO.frz { cls := .type "list", data := .seq vs.toArray } (.lst (ns.map V.int))) else none) a = some (HO.frz { cls := .type "list", data := .seq vs.toArray } (.lst (ns.map V.int))) := if_pos rfl
    have only : ∀ (b : Addr) (u : HO), (fun b => if b = a then some (HO.frz { cls := .type "list", data := .seq vs.toArray } (.lst (ns.map V.int))) else none) b = some u → b = a ∧ u = .frz { cls := .type "list", data := .seq vs.toArray } (.lst (ns.map V.int)) := by
      intro b u q
      by_cases hb : b = a
      · subst hb
        rw [there] at q
        exact ⟨rfl, (Option.some.inj q).symm⟩
      · have q' : none = some u := (if_neg hb).symm.trans q
        cases q'
    refine main _ (fun b u q => ⟨(only b u q).1, (only b u q).2, hk⟩) (.inl (.inr ⟨_, there⟩)) fun b u q => ?_
    obtain ⟨rfl, rfl⟩ := only b u q
    exact ⟨at_a, by rw [List.length_map]; exact size, vs, _, rel, at_a⟩
theorem rg_caller {k : Nat} (h : Room k callerA) : RG k callerA := ⟨h, rfl⟩
/-- the goal behind the head -/
theorem law_end {l : PySem.W.OpenLaw} {n k : Nat} {q : Program} {loose : List Str} {XP : (Str → Option Value) → Heap → Prop} {YP : World → Heap → Prop} {d : DefRec} {K : Params → PySem.W.Frag} {sp : World → Sp} {x : Str}
    (hn : l.most = some n) (hn2 : n ≤ sizeLine) (hdf : d.params.defaults = []) (hr : Room k callerA) (hY : ∀ (w : World) (h : Heap), YP w h → (K w.params).In h)
    (F : ∀ (w : World) (mg : Str → Option Value) (fa : Addr) (h : Heap), (K w.params).In h → h.Ns mainGlobals mg → mg d.name = some (.ref fa) →
      ∃ fd : FuncData, (∀ (s : Shared) (u : Value), BindsTo s fd ⟨[u], []⟩ [(x, u)]) ∧ ∀ base : Heap, (K w.params).In base → base.Ns mainGlobals mg → FnG l.prog w (K w.params) mg base k fa fd [x] (sp w))
    (hsp : ∀ (w : World) (H : Hp) (a : Addr) (ns : List Int), ns.length ≤ n → SqL (K w.params) H a (ns.map V.int) → sp w [.ref a] H (fun v _ => v = .bl true) E0) :
    PySem.W.WalkO q loose XP YP l.row.toRowW d [] (fun f vs => PySem.call f vs) := by
  refine Att.attach_call hn hdf fun w s₀ s₁ mg mb fa o pm cd doc a vs ns G Y ho hd hcd hmg hobj hints hlen hg => ?_
  obtain ⟨fd, hb, hF⟩ := F w mg fa _ (hY w _ Y) G.T.g hmg
  exact call_law (hY w _ Y) G.T.g G.T.b G.T.builtins G.T.nolimit hg hobj hints (Nat.le_trans hlen hn2) (rg_caller hr) hF hb fun H hS => hsp w H a ns hlen hS
end VL
/-! defs: promises over values, calls, bodies -/
namespace VL
open PySem PySem.Spec PyProof.Rows L2

/-- a promise: the arguments, what is wanted of the answer and of the arguments behind the call -/
abbrev SpV := List D → (D → List D → Prop) → Prop
def toSp (K : PySem.W.Frag) (n : Nat) (sp : SpV) : Sp := fun vs H Q E => vs.length = n ∧ ∃ (H0 : Hp) (ds : List D) (es : List En) (C : D → List D → Prop), ds.length = n ∧ Sep K H0 H (ens ds vs ++ es) ∧ sp ds C ∧
  ∀ d ds' v H', C d ds' → ds'.length = n → Sep K H0 H' ((d, some v) :: (ens ds' vs ++ es)) → Q v H'
abbrev FnV (P : Program) (w : World) (K : PySem.W.Frag) (mg : Str → Option Value) (base : Heap) (k : Nat) (f : Addr) (fd : FuncData) (ps : List Str) (sp : SpV) : Prop := FnG P w K mg base k f fd ps (toSp K ps.length sp)

/-! ### arguments, some of them lent -/
def Lent : List (Option Nat) → List V → L2.St → Prop
  | some i :: ms, v :: vs, σ => σ[i]? = some (some v) ∧ Lent ms vs σ
  | none :: ms, _ :: vs, σ => Lent ms vs σ
  | _, _, _ => True
def putBack : List (Option Nat) → List D → List D → List D
  | some i :: ms, d :: ds, e => putBack ms ds (e.set i d)
  | none :: ms, _ :: ds, e => putBack ms ds e
  | _, _, e => e
def MOk (K : PySem.W.Frag) (ta : TA) (ms : List (Option Nat)) (t : TVA) : Prop := ∀ (H0 : Hp) (env : List D) (fr : List En) (σ : L2.St) (H : Hp) (C : List D → List D → Prop) (Q : List V → Hp → Prop), Rep K H0 H env σ fr → t env C →
    (∀ ds env' vs H', C ds env' → ds.length = vs.length → Lent ms vs σ → ms.length = vs.length → Rep K H0 H' env' σ (ens ds vs ++ fr) → Q vs H') → ta σ H Q
structure VM (X : Cx) (es : List Expr) (ms : List (Option Nat)) (ta : TA) (t : TVA) : Prop where
  pe : PA X es ta
  ok : MOk X.K ta ms t
def vlend (i : Nat) (u : TVA) : TVA := fun env C => match env[i]? with
  | some d => real d = true ∧ u (env.set i .junk) fun ds e => C (d :: ds) e
  | none => False
section
variable {X : Cx} {e : Expr} {es : List Expr} {ms : List (Option Nat)} {te : TE} {ta : TA} {t : TV} {u : TVA} {pos : Pos} {x : Str}
theorem vm_nil : VM X [] [] tNil vnil := ⟨pa_nil, fun H0 env fr σ H C Q r ht k => k [] env [] H ht rfl trivial rfl r⟩
theorem vm_val (he : VE X e te t) (hs : VM X es ms ta u) (hst : starEach (e :: es) X.env = (false, eval e X.env) :: starEach es X.env := by rfl) : VM X (e :: es) (none :: ms) (tCons te ta) (vcons t u) := by
  refine ⟨pa_cons he.pe hs.pe hst, fun H0 env fr σ H C Q r ht k => ?_⟩
  refine he.ok H0 env fr σ H _ _ r ht fun d1 e1 v1 H1 c1 r1 => ?_
  refine hs.ok H0 e1 ((d1, some v1) :: fr) σ H1 _ _ r1 c1 fun ds e2 vs H2 c2 hl hle hml r2 => ?_
  refine k (d1 :: ds) e2 (v1 :: vs) H2 c2 (by simp [hl]) hle (by simp [hml]) ⟨r2.1, r2.2.perm ?_⟩
  have e : (ens (d1 :: ds) (v1 :: vs) ++ fr) ++ e2.zip σ = (d1, some v1) :: (ens ds vs ++ (fr ++ e2.zip σ)) := by
    rw [ens_cons, List.append_assoc, List.cons_append]
  rw [e, List.append_assoc]
  exact List.perm_middle
theorem vm_lend (i : Nat) (he : PE X (.Name x pos) (tVar i)) (hs : VM X es ms ta u) (hst : starEach (.Name x pos :: es) X.env = (false, eval (.Name x pos) X.env) :: starEach es X.env := by rfl) : VM X (.Name x pos :: es) (some i :: ms) (tCons (tVar i) ta) (vlend i u) := by
  refine ⟨pa_cons he hs.pe hst, fun H0 env fr σ H C Q r ht k => ?_⟩
  unfold vlend at ht
  cases ee : env[i]? with
  | none => rw [ee] at ht; exact ht.elim
  | some d =>
    rw [ee] at ht
    obtain ⟨ov, rest, h1, h2, _, h3⟩ := r.focus ee
    obtain ⟨v, rfl⟩ := h2.has (by rintro rfl; cases ht.1)
    refine ⟨v, h1, ?_⟩
    have r1 := h3 H0 H .junk ((d, some v) :: fr) h2.addJunk
    refine hs.ok H0 _ ((d, some v) :: fr) σ H _ _ r1 ht.2 fun ds e2 vs H2 c2 hl hle hml r2 => ?_
    refine k (d :: ds) e2 (v :: vs) H2 c2 (by simp [hl]) ⟨h1, hle⟩ (by simp [hml]) ⟨r2.1, r2.2.perm ?_⟩
    have e : (ens (d :: ds) (v :: vs) ++ fr) ++ e2.zip σ = (d, some v) :: (ens ds vs ++ (fr ++ e2.zip σ)) := by
      rw [ens_cons, List.append_assoc, List.cons_append]
    rw [e, List.append_assoc]
    exact List.perm_middle
theorem Rep.putBack {K : PySem.W.Frag} {H0 H : Hp} {σ : L2.St} {fr : List En} : ∀ {ms : List (Option Nat)} {ds : List D} {vs : List V} {e : List D}, ds.length = vs.length → Lent ms vs σ → Rep K H0 H e σ (ens ds vs ++ fr) → Rep K H0 H (VL.putBack ms ds e) σ fr
  | [], ds, vs, e, hl, _, r => by
    have q : VL.putBack [] ds e = e := by cases ds <;> rfl
    rw [q]
    refine ⟨r.1, ?_⟩
    have s := r.2
    rw [List.append_assoc] at s
    exact s.dropL
  | some i :: ms, [], [], e, _, _, r => r
  | none :: ms, [], [], e, _, _, r => r
  | some i :: ms, d :: ds, v :: vs, e, hl, le, r => by
    have q := Rep.store i (show Rep K H0 H e σ ((d, some v) :: (ens ds vs ++ fr)) from r)
    rw [set_same le.1] at q
    exact Rep.putBack (ms := ms) (ds := ds) (vs := vs) (by simpa using hl) le.2 q
  | none :: ms, d :: ds, v :: vs, e, hl, le, r => Rep.putBack (ms := ms) (ds := ds) (vs := vs) (by simpa using hl) le ⟨r.1, Sep.drop1 (e := (d, some v)) r.2⟩
  | some _ :: _, [], _ :: _, _, hl, _, _ => by cases hl
  | some _ :: _, _ :: _, [], _, hl, _, _ => by cases hl
  | none :: _, [], _ :: _, _, hl, _, _ => by cases hl
  | none :: _, _ :: _, [], _, hl, _, _ => by cases hl

def Scals : List D → List V → Prop
  | [], [] => True
  | d :: ds, v :: vs => scalD d v ∧ Scals ds vs
  | _, _ => False
theorem Scals.length : ∀ {ds : List D} {vs : List V}, Scals ds vs → ds.length = vs.length
  | [], [], _ => rfl
  | [], _ :: _, h => h.elim
  | _ :: _, [], h => h.elim
  | _ :: _, _ :: _, h => by simp [Scals.length h.2]
theorem Sep.scals {K : PySem.W.Frag} {H0 H : Hp} {b : List En} (s : Sep K H0 H b) : ∀ {ds : List D} {vs : List V}, Scals ds vs → Sep K H0 H (ens ds vs ++ b)
  | [], [], _ => s
  | [], _ :: _, h => h.elim
  | _ :: _, [], h => h.elim
  | d :: ds, v :: vs, h => (Sep.scals s h.2).scal h.1
/-- f(..): sp its promise, ms which arguments are lent names, dds the defaults behind -/
def vfn (sp : SpV) (ms : List (Option Nat)) (dds : List D) (t : TVA) : TV := fun env C => t env fun ds e1 => sp (ds ++ dds) fun d ds' => C d (putBack ms ds' e1)
theorem Lent.append {σ : L2.St} : ∀ {ms : List (Option Nat)} {vs ws : List V}, ms.length = vs.length → Lent ms vs σ → Lent ms (vs ++ ws) σ
  | [], [], [], _, _ => trivial
  | [], [], _ :: _, _, _ => trivial
  | some _ :: ms, v :: vs, ws, hl, h => ⟨h.1, Lent.append (by simpa using hl) h.2⟩
  | none :: ms, v :: vs, ws, hl, h => Lent.append (ms := ms) (vs := vs) (by simpa using hl) h
  | [], _ :: _, _, hl, _ => by cases hl
  | some _ :: _, [], _, hl, _ => by cases hl
  | none :: _, [], _, hl, _ => by cases hl
theorem fn_ok {K : PySem.W.Frag} {n : Nat} {sp : SpV} {dvs : List V} {dds : List D} (ha : MOk K ta ms u) (hd : Scals dds dvs) (hn : ms.length + dvs.length = n) : EOk K (tCall (toSp K n sp) dvs E0 ta) (vfn sp ms dds u) := by
  intro H0 env fr σ H C Q r ht k
  refine ha H0 env fr σ H _ _ r ht fun ds e1 vs H1 c1 hl le hml r1 => ?_
  have hlen : (vs ++ dvs).length = n := by rw [List.length_append, ← hml, hn]
  have hld : (ds ++ dds).length = (vs ++ dvs).length := by rw [List.length_append, List.length_append, hl, hd.length]
  refine ⟨hlen, H0, ds ++ dds, fr ++ e1.zip σ, _, hld.trans hlen, ?_, c1, fun d ds' v H' c2 hl2 s2 => k d _ v H' c2 ?_⟩
  · rw [ens_append hl, List.append_assoc]
    have s1 := r1.2
    rw [List.append_assoc] at s1
    exact (s1.scals hd).perm (pm3 _ _ _)
  · have r2 : Rep K H0 H' e1 σ (ens ds' (vs ++ dvs) ++ ((d, some v) :: fr)) := by
      refine ⟨r1.1, s2.perm ?_⟩
      rw [List.append_assoc, List.cons_append]
      exact List.perm_middle.symm
    exact Rep.putBack (hl2.trans hlen.symm) (Lent.append hml le) r2
variable {k : Nat} {f : Addr} {fd : FuncData} {ps : List Str} {sp : SpV} {dvs : List V} {dds : List D} {dss : List Value} {p : Pos}
theorem ve_fn (F : FnV X.prog X.w X.K X.mg X.base k f fd ps sp) (hr : RG k X.A) (hg : Gl X x) (hm : X.mg x = some (.ref f)) (hk : PySem.W.keepIn X.K (.ref f) = true) (hb : Binds X.K fd ps dss) (hd : Vals dvs dss) (hs : Scals dds dvs)
    (ha : VM X (e :: es) ms ta u) (hn : ms.length + dvs.length = ps.length := by rfl) (hdb : (x == ("__debug__" : Str)) = false := by decide) (he : starEach (e :: es) X.env = (false, eval e X.env) :: starEach es X.env := by rfl) (hpl : (backTo pos (starEach es X.env)).any (·.1) = false := by rfl) :
    VE X (.Call (.Name x p) (e :: es) [] pos) (tCall (toSp X.K ps.length sp) dvs E0 ta) (vfn sp ms dds u) := ⟨pe_callG F hr hg hm hk hb hd ha.pe hdb he hpl, fn_ok ha.ok hs hn⟩
/-- f(): no argument -/
theorem ve_fn0 (F : FnV X.prog X.w X.K X.mg X.base k f fd [] sp) (hr : RG k X.A) (hg : Gl X x) (hm : X.mg x = some (.ref f)) (hk : PySem.W.keepIn X.K (.ref f) = true) (hb : Binds X.K fd [] []) (hdb : (x == ("__debug__" : Str)) = false := by decide) :
    VE X (.Call (.Name x p) [] [] pos) (tCall (toSp X.K 0 sp) [] E0 tNil) (vfn sp [] [] vnil) := ⟨pe_callG0 F hr hg hm hk hb .nil hdb, fn_ok vm_nil.ok trivial rfl⟩
end

/-! ### calls by keywords alone: ks the names as written, the parameters' order by g -/
structure VKw (X : Cx) (kws : List Keyword) (tk : TA) (t : TVA) : Prop where
  pe : PK X kws tk
  ok : AOk X.K tk t
section
variable {X : Cx} {e : Expr} {kws : List Keyword} {te : TE} {tk : TA} {t : TV} {u : TVA} {pos kpos p : Pos} {x : Str} {nm : Option Str}
theorem vk_nil : VKw X [] tNil vnil := ⟨pk_nil, fun H0 env fr σ H C Q r ht k => k [] env [] H ht rfl r⟩
theorem vk_cons (he : VE X e te t) (hs : VKw X kws tk u) : VKw X (⟨nm, e, kpos⟩ :: kws) (tCons te tk) (vcons t u) := by
  refine ⟨pk_cons he.pe hs.pe, fun H0 env fr σ H C Q r ht k => ?_⟩
  refine he.ok H0 env fr σ H _ _ r ht fun d1 e1 v1 H1 c1 r1 => ?_
  refine hs.ok H0 e1 ((d1, some v1) :: fr) σ H1 _ _ r1 c1 fun ds e2 vs H2 c2 hl r2 => ?_
  refine k (d1 :: ds) e2 (v1 :: vs) H2 c2 (by simp [hl]) ⟨r2.1, r2.2.perm ?_⟩
  have e : (ens (d1 :: ds) (v1 :: vs) ++ fr) ++ e2.zip σ = (d1, some v1) :: (ens ds vs ++ (fr ++ e2.zip σ)) := by
    rw [ens_cons, List.append_assoc, List.cons_append]
  rw [e, List.append_assoc]
  exact List.perm_middle
/-- the places: parameter i is the keyword at (at i) -/
def pick {α : Type} (at' : List Nat) (xs : List α) : List α := at'.filterMap fun i => xs[i]?
structure KwB (K : PySem.W.Frag) (fd : FuncData) (ps ks : List Str) (at' : List Nat) : Prop where
  to : ∀ (s : Shared) (ws : List Value), K.In s.heap → ws.length = ks.length → BindsTo s fd ⟨[], ks.zip ws⟩ (ps.zip (pick at' ws))
  perm : at'.Perm (List.range ks.length)
  len : ps.length = ks.length
theorem pick_vals {at' : List Nat} {vs : List V} {us : List Value} (r : Vals vs us) : Vals (pick at' vs) (pick at' us) := by
  unfold pick
  induction at' with
  | nil => exact .nil
  | cons i l ih =>
    cases e : vs[i]? with
    | none =>
      have e2 := r.none_of e
      rw [List.filterMap_cons_none e, List.filterMap_cons_none e2]
      exact ih
    | some v =>
      obtain ⟨u, e2, ru⟩ := r.get e
      rw [List.filterMap_cons_some e, List.filterMap_cons_some e2]
      exact .cons ru ih
theorem pick_range {α : Type} (xs : List α) : pick (List.range xs.length) xs = xs := by
  unfold pick
  apply List.ext_getElem?
  intro i
  have h : (List.range xs.length).filterMap (fun i => xs[i]?) = (List.range xs.length).pmap (fun i h => xs[i]'(by simpa using h)) (fun i h => by simpa using h) := by
    rw [List.pmap_eq_map_attach]
    rw [← List.filterMap_eq_map]
    conv => lhs; rw [← List.attach_map_subtype_val (List.range xs.length), List.filterMap_map]
    congr 1
    funext ⟨j, hj⟩
    simp at hj
    simp [hj]
  rw [h, List.getElem?_pmap]
  by_cases hi : i < xs.length
  · simp [hi]
  · simp [hi]
theorem pick_perm {α : Type} {at' : List Nat} {xs : List α} (p : at'.Perm (List.range xs.length)) : (pick at' xs).Perm xs := by
  have h : (pick at' xs).Perm (pick (List.range xs.length) xs) := p.filterMap _
  rw [pick_range] at h
  exact h
theorem pick_zip {at' : List Nat} {ds : List D} {vs : List V} (hl : ds.length = vs.length) : ens (pick at' ds) (pick at' vs) = pick at' (ens ds vs) := by
  unfold pick ens
  induction at' with
  | nil => rfl
  | cons i l ih =>
    by_cases h : i < ds.length
    · have h2 : i < vs.length := hl ▸ h
      have e1 : ds[i]? = some ds[i] := List.getElem?_eq_getElem h
      have e2 : vs[i]? = some vs[i] := List.getElem?_eq_getElem h2
      have e3 : (ds.zip (vs.map some))[i]? = some (ds[i], some vs[i]) := by
        rw [List.getElem?_zip_eq_some]
        exact ⟨e1, by rw [List.getElem?_map, e2]; rfl⟩
      rw [List.filterMap_cons_some e1, List.filterMap_cons_some e2, List.filterMap_cons_some e3, List.map_cons, List.zip_cons_cons, ih]
    · have h2 : ¬ i < vs.length := hl ▸ h
      have e1 : ds[i]? = none := List.getElem?_eq_none (Nat.le_of_not_lt h)
      have e2 : vs[i]? = none := List.getElem?_eq_none (Nat.le_of_not_lt h2)
      have e3 : (ds.zip (vs.map some))[i]? = none := List.getElem?_eq_none (by simp; omega)
      rw [List.filterMap_cons_none e1, List.filterMap_cons_none e2, List.filterMap_cons_none e3, ih]
def vfnk (sp : SpV) (n : Nat) (at' : List Nat) (t : TVA) : TV := fun env C => t env fun ds e1 => ds.length = n ∧ sp (pick at' ds) fun d _ => C d e1
def tCallK0 (sp : Sp) (n : Nat) (at' : List Nat) (tk : TA) : TE := fun σ H Q => tk σ H fun zs H2 => zs.length = n ∧ sp (pick at' zs) H2 Q E0
theorem pe_callK0 {k : Nat} {f : Addr} {fd : FuncData} {ps ks : List Str} {at' : List Nat} {sp : Sp} (F : FnG X.prog X.w X.K X.mg X.base k f fd ps sp) (hr : RG k X.A) (hg : Gl X x) (hm : X.mg x = some (.ref f)) (hk : PySem.W.keepIn X.K (.ref f) = true) (hb : KwB X.K fd ps ks at')
    (hkw : PK X kws tk) (hall : (backToKw pos (keywordEach kws X.env)).all (·.1.isSome) = true := by rfl) (hks : (backToKw pos (keywordEach kws X.env)).filterMap (·.1) = ks := by rfl)
    (hdb : (x == ("__debug__" : Str)) = false := by decide)
    (hpl : ((backTo pos (starEach [] X.env)).any (·.1) || (backToKw pos (keywordEach kws X.env)).any (·.1.isNone)) = false := by rfl) :
    PE X (.Call (.Name x p) [] kws pos) (tCallK0 sp ks.length at' tk) := by
  refine ⟨fun pins s σ H Q I h => ?_⟩
  refine wpAny_Call_Name_kw (ld_glob I hg hm ?_ hdb)
  refine PySem.W.callWith_KW0 (h₀ := X.base) I.ok.mod.kin hk hall (thn (hkw.run pos pins s σ H _ I h) fun ws s2 ⟨zs, H2, I2, rz, q2⟩ => ⟨I2.kIn, ?_⟩) hpl
  rw [hks]
  have r2 : Vals (pick at' zs) (pick at' ws) := pick_vals rz
  have hw : ws.length = ks.length := by rw [← rz.length, q2.1]
  refine wpAny_call (codeAny_mono (F.go X.A X.stack s2 H2 ⟨[], ks.zip ws⟩ (pick at' ws) (pick at' zs) Q E0 hr I2.env0 (hb.to s2 ws I2.kIn hw) r2 q2.2) fun rs s' hq => ?_)
  have q := after_cr I2 hq
  cases rs with
  | error ex => exact q
  | ok fl => cases fl <;> first | exact q | exact q.elim
theorem fnk_ok {K : PySem.W.Frag} {n : Nat} {sp : SpV} {at' : List Nat} (ha : AOk K tk u) (hp : at'.Perm (List.range n)) : EOk K (tCallK0 (toSp K n sp) n at' tk) (vfnk sp n at' u) := by
  intro H0 env fr σ H C Q r ht k
  refine ha H0 env fr σ H _ _ r ht fun ds e1 vs H1 c1 hl r1 => ⟨hl.symm.trans c1.1, ?_⟩
  have hp1 : at'.Perm (List.range ds.length) := by rw [c1.1]; exact hp
  have hp2 : at'.Perm (List.range vs.length) := by rw [← hl]; exact hp1
  have hpe : at'.Perm (List.range (ens ds vs).length) := by
    have e : (ens ds vs).length = ds.length := by unfold ens; simp [hl]
    rw [e]; exact hp1
  have l1 : (pick at' ds).length = n := by rw [(pick_perm hp1).length_eq, c1.1]
  have l2 : (pick at' vs).length = n := by rw [(pick_perm hp2).length_eq, ← hl, c1.1]
  refine ⟨l2, H0, pick at' ds, fr ++ e1.zip σ, _, l1, ?_, c1.2, fun d ds' v H' c2 hl2 s2 => k d _ v H' c2 ⟨r1.1, ?_⟩⟩
  · have s1 := r1.2
    rw [List.append_assoc] at s1
    refine s1.perm (List.Perm.append_right _ ?_)
    rw [pick_zip hl]
    exact (pick_perm hpe).symm
  · have s3 : Sep K H0 H' (ens ds' (pick at' vs) ++ ((d, some v) :: (fr ++ e1.zip σ))) := s2.perm List.perm_middle.symm
    exact s3.dropL
theorem ve_fnk {k : Nat} {f : Addr} {fd : FuncData} {ps ks : List Str} {at' : List Nat} {sp : SpV} (F : FnV X.prog X.w X.K X.mg X.base k f fd ps sp) (hr : RG k X.A) (hg : Gl X x) (hm : X.mg x = some (.ref f)) (hk : PySem.W.keepIn X.K (.ref f) = true) (hb : KwB X.K fd ps ks at')
    (ha : VKw X kws tk u) (hall : (backToKw pos (keywordEach kws X.env)).all (·.1.isSome) = true := by rfl) (hks : (backToKw pos (keywordEach kws X.env)).filterMap (·.1) = ks := by rfl)
    (hdb : (x == ("__debug__" : Str)) = false := by decide)
    (hpl : ((backTo pos (starEach [] X.env)).any (·.1) || (backToKw pos (keywordEach kws X.env)).any (·.1.isNone)) = false := by rfl) :
    VE X (.Call (.Name x p) [] kws pos) (tCallK0 (toSp X.K ps.length sp) ps.length at' tk) (vfnk sp ps.length at' u) := by
  have q := pe_callK0 (pos := pos) (p := p) F hr hg hm hk hb ha.pe hall hks hdb hpl
  rw [← hb.len] at q
  exact ⟨q, fnk_ok ha.ok (hb.len ▸ hb.perm)⟩
end
end VL
/-! a def keeps its promise, by its body -/
namespace VL
open PySem PySem.Spec PyProof.Rows L2

def keepFz (d : D) : D := if isFz d then d else .junk
def outs : Nat → List D → List D → List D
  | i, d :: ds, e => (if isFz d then d else e.getD i .junk) :: outs (i + 1) ds e
  | _, [], _ => []
theorem outs_length : ∀ (i : Nat) (ds e : List D), (outs i ds e).length = ds.length
  | _, [], _ => rfl
  | i, d :: ds, e => by simp [outs, outs_length (i + 1) ds e]
/-- an argument that is not frozen has a parameter that is never stored -/
def fxOk (FX : List Nat) : Nat → List D → Bool
  | i, d :: ds => (isFz d || FX.contains i) && fxOk FX (i + 1) ds
  | _, [] => true
section
variable {K : PySem.W.Frag} {H0 H : Hp}
theorem Sep.keep : ∀ {ds : List D} {vs : List V} {es : List En}, Sep K H0 H (ens ds vs ++ es) → ds.length = vs.length → Sep K H0 H (ens (ds.map keepFz) vs ++ (ens ds vs ++ es))
  | [], [], es, s, _ => s
  | [], _ :: _, _, _, h => by cases h
  | _ :: _, [], _, _, h => by cases h
  | d :: ds, v :: vs, es, s, h => by
    have s1 : Sep K H0 H (ens ds vs ++ ((d, some v) :: es)) := s.perm List.perm_middle.symm
    have s2 := Sep.keep s1 (by simpa using h)
    -- to the front: d
    have s3 : Sep K H0 H ((d, some v) :: (ens (ds.map keepFz) vs ++ (ens ds vs ++ es))) := by
      refine s2.perm ?_
      rw [← List.append_assoc, ← List.append_assoc]
      exact List.perm_middle
    have s4 : Sep K H0 H ((keepFz d, some v) :: (d, some v) :: (ens (ds.map keepFz) vs ++ (ens ds vs ++ es))) := by
      unfold keepFz
      split
      · rename_i hz; exact s3.dup hz
      · exact s3.addJunk
    exact s4.perm (List.Perm.cons _ List.perm_middle.symm)
theorem Sep.junks : ∀ {n : Nat} {b : List En}, Sep K H0 H b → Sep K H0 H ((List.replicate n D.junk).zip (List.replicate n (none : Option V)) ++ b)
  | 0, _, s => s
  | n + 1, b, s => by
    rw [List.replicate_succ, List.replicate_succ]
    exact (Sep.junks (n := n) s).addJunk
theorem drop_cons {α : Type} {l : List α} {i : Nat} {a : α} (h : l[i]? = some a) : l.drop i = a :: l.drop (i + 1) := by
  obtain ⟨h1, h2⟩ := List.getElem?_eq_some_iff.mp h
  rw [List.drop_eq_getElem_cons h1, h2]
theorem Sep.outs {FX : List Nat} {e : List D} {σ σ0 : L2.St} : ∀ {ds : List D} {vs : List V} {i : Nat} {R : List En}, ds.length = vs.length → e.length = σ.length → Fx FX σ0 σ → (∀ j v, vs[j]? = some v → σ0[i + j]? = some (some v)) → fxOk FX i ds = true →
    Sep K H0 H (ens (ds.map keepFz) vs ++ ((e.drop i).zip (σ.drop i) ++ R)) → Sep K H0 H (ens (VL.outs i ds e) vs ++ R)
  | [], [], i, R, _, _, _, _, _, s => by
    have s1 : Sep K H0 H ((e.drop i).zip (σ.drop i) ++ R) := s
    exact s1.dropL
  | [], _ :: _, _, _, h, _, _, _, _, _ => by cases h
  | _ :: _, [], _, _, h, _, _, _, _, _ => by cases h
  | d :: ds, v :: vs, i, R, hl, hes, f, h0, hf, s => by
    have hf' : (isFz d = true ∨ FX.contains i = true) ∧ fxOk FX (i + 1) ds = true := by simpa [fxOk] using hf
    have go : Sep K H0 H (((if isFz d then d else e.getD i .junk), some v) :: (ens (ds.map keepFz) vs ++ ((e.drop (i + 1)).zip (σ.drop (i + 1)) ++ R))) → Sep K H0 H (ens (VL.outs i (d :: ds) e) (v :: vs) ++ R) := fun s2 => by
      have s5 : Sep K H0 H (ens (ds.map keepFz) vs ++ ((e.drop (i + 1)).zip (σ.drop (i + 1)) ++ (((if isFz d then d else e.getD i .junk), some v) :: R))) := by
        refine s2.perm ?_
        rw [← List.append_assoc, ← List.append_assoc]
        exact List.perm_middle.symm
      have s6 := Sep.outs (i := i + 1) (by simpa using hl) hes f (fun j w hw => by have := h0 (j + 1) w (by simpa using hw); rw [show i + 1 + j = i + (j + 1) by omega]; exact this) hf'.2 s5
      exact s6.perm List.perm_middle
    by_cases hi : i < e.length
    · obtain ⟨de, ede⟩ : ∃ de, e[i]? = some de := ⟨_, List.getElem?_eq_getElem hi⟩
      obtain ⟨ov, eov⟩ : ∃ ov, σ[i]? = some ov := ⟨_, List.getElem?_eq_getElem (hes ▸ hi)⟩
      rw [drop_cons ede, drop_cons eov, List.zip_cons_cons] at s
      have s1 : Sep K H0 H ((keepFz d, some v) :: (de, ov) :: (ens (ds.map keepFz) vs ++ ((e.drop (i + 1)).zip (σ.drop (i + 1)) ++ R))) := s.perm (List.Perm.cons _ List.perm_middle)
      refine go ?_
      by_cases hz : isFz d = true
      · rw [if_pos hz]
        have s3 := s1.perm (.swap _ _ _)
        have s4 := s3.drop1
        unfold keepFz at s4
        rw [if_pos hz] at s4
        exact s4
      · rw [if_neg hz, getD_of ede]
        have hx : i ∈ FX := by
          rcases hf'.1 with z | z
          · exact absurd z hz
          · simpa using z
        have e1 := f i hx
        rw [eov, show σ0[i]? = some (some v) from by simpa using h0 0 v rfl] at e1
        obtain rfl := Option.some.inj e1
        exact s1.drop1
    · have hz : isFz d = true := by
        rcases hf'.1 with z | z
        · exact z
        · have e1 := f i (by simpa using z)
          rw [show σ0[i]? = some (some v) from by simpa using h0 0 v rfl] at e1
          have := (List.getElem?_eq_some_iff.mp e1).1
          omega
      refine go ?_
      rw [if_pos hz]
      have z1 : e.drop i = [] := List.drop_eq_nil_of_le (Nat.le_of_not_lt hi)
      have z2 : e.drop (i + 1) = [] := List.drop_eq_nil_of_le (by omega)
      rw [z1] at s
      rw [z2]
      have s4 : Sep K H0 H ((keepFz d, some v) :: (ens (ds.map keepFz) vs ++ ([] ++ R))) := s
      unfold keepFz at s4
      rw [if_pos hz] at s4
      exact s4
end
section
variable {P : Program} {w : World} {K : PySem.W.Frag} {mg : Str → Option Value} {base : Heap}
/-- THE RULE for a def -/
theorem fnv_ok {x qual : Str} {params : Arguments} {body : List Stmt} {scope : Scope} {dvs : List V} {f : Addr} {fd : FuncData} {N ps : List Str} {k : Nat} {sp : SpV} (F : FunD K x qual params body scope dvs [] f fd) (S : FnScope N ps scope) (FX : List Nat) (t : TSV)
    (hb : ∀ (cdv : Value) (A : Around) (outer : List Env) (s : Shared) (H : Hp) (E : XK), RG k (A.deeper (envOfC qual scope s.heap.objs.size f cdv)) → VSs (cxOf CX0 P w K mg base N qual scope f cdv A outer s H E).nox FX body t)
    (hq : ∀ ds C, ds.length = ps.length → sp ds C → fxOk FX 0 ds = true ∧ t { nx := fun e => C .non (outs 0 ds e), rt := fun d e => C d (outs 0 ds e) } (ds ++ List.replicate (N.length - ps.length) .junk)) : FnV P w K mg base (k + 1) f fd ps sp := by
  refine FnG.ofBody F S (fun vs H Q E h => h.1) fun cdv A outer s H vs Q E hr h => ?_
  obtain ⟨hlv, H0, ds, es, C, hld, sep, hsp, k0⟩ := h
  obtain ⟨hfx, ht⟩ := hq ds C hld hsp
  obtain ⟨ts, a1, a2⟩ := (hb cdv A outer s H E hr).ex
  have hl : ds.length = vs.length := hld.trans hlv.symm
  refine ⟨ts, a1.nox, ?_⟩
  have rep : Rep K H0 H (ds ++ List.replicate (N.length - ps.length) .junk) (L2.start N vs) (ens (ds.map keepFz) vs ++ es) := by
    have en : N.length - vs.length = N.length - ps.length := by rw [hlv]
    refine ⟨by unfold L2.start; rw [List.length_append, List.length_append, List.length_map, List.length_replicate, List.length_replicate, hl, en], ?_⟩
    have s1 := sep.keep hl
    unfold L2.start
    rw [en, List.zip_append (by rw [List.length_map]; exact hl)]
    have s2 := Sep.junks (n := N.length - ps.length) s1
    refine s2.perm ?_
    show ((List.replicate (N.length - ps.length) D.junk).zip (List.replicate (N.length - ps.length) none) ++ (ens (ds.map keepFz) vs ++ (ens ds vs ++ es))).Perm (ens (ds.map keepFz) vs ++ es ++ (ens ds vs ++ (List.replicate (N.length - ps.length) D.junk).zip (List.replicate (N.length - ps.length) none)))
    refine List.perm_append_comm.trans ?_
    simp only [List.append_assoc]
    refine List.Perm.append_left _ ?_
    exact pm3 _ _ _
  have h0 : ∀ j v, vs[j]? = some v → (L2.start N vs)[0 + j]? = some (some v) := fun j v e => by
    unfold L2.start
    have hj : j < vs.length := (List.getElem?_eq_some_iff.mp e).1
    rw [Nat.zero_add, List.getElem?_append_left (by simpa using hj), List.getElem?_map, e]; rfl
  have hpl : ps.length ≤ N.length := by have := congrArg List.length S.pre; rw [List.length_take] at this; omega
  have fin : ∀ (d : D) (v : V) (e : List D) (σ' : L2.St) (H' : Hp), Fx FX (L2.start N vs) σ' → Rep K H0 H' e σ' ((d, some v) :: (ens (ds.map keepFz) vs ++ es)) → C d (VL.outs 0 ds e) → Q v H' := fun d v e σ' H' fx r c => by
    refine k0 d _ v H' c ((outs_length 0 ds e).trans hld) ?_
    have s := r.2
    have s1 : Sep K H0 H' (ens (ds.map keepFz) vs ++ ((e.drop 0).zip (σ'.drop 0) ++ ((d, some v) :: es))) := by
      refine s.perm ?_
      rw [List.drop_zero, List.drop_zero]
      show ((d, some v) :: (ens (ds.map keepFz) vs ++ es) ++ e.zip σ').Perm _
      rw [List.cons_append, List.append_assoc]
      refine (List.perm_middle (l₁ := ens (ds.map keepFz) vs)).symm.trans (List.Perm.append_left _ ?_)
      rw [← List.cons_append]
      exact List.perm_append_comm
    have s2 := Sep.outs (i := 0) hl r.1 fx h0 hfx s1
    exact s2.perm List.perm_middle
  refine a2 H0 _ _ _ (L2.start N vs) H _ _ (fun _ _ => rfl) rep ht ⟨fun e σ' H' c fx r => ?_, fun d e v σ' H' c fx r => fin d v e σ' H' fx r c, fun _ _ _ c => c.elim, fun _ _ _ c => c.elim⟩
  exact fin .non .non e σ' H' fx ⟨r.1, r.2.scal rfl⟩ c
/-- a weaker promise -/
theorem FnV.imp {k : Nat} {f : Addr} {fd : FuncData} {ps : List Str} {sp sp' : SpV} (F : FnV P w K mg base k f fd ps sp) (h : ∀ ds C, sp' ds C → sp ds C) : FnV P w K mg base k f fd ps sp' :=
  FnG.less F fun vs H Q E ⟨a, H0, ds, es, C, b, c, d, e⟩ => ⟨a, H0, ds, es, C, b, c, h _ _ d, e⟩
end
end VL
/-! operators, built-ins, methods over values -/
namespace VL
open PySem PySem.Spec PyProof.Rows L2

/-! ### ints -/
def wI (P : Int → Int → Prop) (g : Int → Int → D) : W2 := fun a b C => match a, b with
  | .int i, .int j => P i j ∧ C (g i j)
  | _, _ => False
def wI0 (g : Int → Int → D) : W2 := fun a b C => match a, b with
  | .int i, .int j => C (g i j)
  | _, _ => False
section
variable {K : PySem.W.Frag}
theorem ok_I {Cc P : Int → Int → Prop} {gV : Int → Int → V} {g : Int → Int → D} (h1 : ∀ i j, P i j → Cc i j) (h2 : ∀ i j, P i j → scalD (g i j) (gV i j)) : Ok2 K (rI Cc gV) (wI P g) := fun H0 H a b u v es C Q s hw k => by
  cases a with
  | int i =>
    cases b with
    | int j =>
      obtain rfl := Option.some.inj s.is_int
      obtain rfl := Option.some.inj s.drop1.is_int
      exact ⟨i, j, rfl, rfl, h1 i j hw.1, k _ _ H hw.2 (s.drop1.drop1.scal (h2 i j hw.1))⟩
    | _ => exact (show False from hw).elim
  | _ => exact (show False from hw).elim
theorem ok_I0 {gV : Int → Int → V} {g : Int → Int → D} (h2 : ∀ i j, scalD (g i j) (gV i j)) : Ok2 K (rI0 gV) (wI0 g) := fun H0 H a b u v es C Q s hw k => by
  cases a with
  | int i =>
    cases b with
    | int j =>
      obtain rfl := Option.some.inj s.is_int
      obtain rfl := Option.some.inj s.drop1.is_int
      exact ⟨i, j, rfl, rfl, k _ _ H hw (s.drop1.drop1.scal (h2 i j))⟩
    | _ => exact (show False from hw).elim
  | _ => exact (show False from hw).elim
end
def wSub : W2 := wI0 fun i j => .int (i - j)
/-- numbers whose size is no matter -/
def Big (i : Int) : Prop := i.natAbs < 2 ^ 8192
def wMulI : W2 := wI (fun i j => Big i ∧ Big j) fun i j => .int (i * j)
def wDiv : W2 := wI (fun _ j => 0 < j ∧ Big j) fun i j => .int (i / j)
def wMod : W2 := wI (fun _ j => 0 < j) fun i j => .int (i % j)
def wPow : W2 := wI (fun i j => 0 ≤ j ∧ (Builtin.Int.intBits i : Int) * j ≤ 134217728) fun i j => .int (i ^ j.toNat)
def wLt : W2 := wI0 fun i j => .bl (decide (i < j))
def wLe : W2 := wI0 fun i j => .bl (decide (i ≤ j))
def wGt : W2 := wI0 fun i j => .bl (decide (j < i))
def wGe : W2 := wI0 fun i j => .bl (decide (j ≤ i))
section
variable {X : Cx} {a b : Expr} {te tf : TE} {ta tb : TV} {pos : Pos}
theorem mulW {i j : Int} (h : Big i ∧ Big j) : CMulW i j := wide_mul h.1 h.2 (by decide) (by decide) (by decide)
theorem divW {i j : Int} (h : 0 < j ∧ Big j) : CDivW i j := wide_div h.1 h.2 (by decide) (by decide)
theorem op_powW : OpR X (binaryOp .Pow) (rI (fun i j => 0 ≤ j ∧ (Builtin.Int.intBits i : Int) * j ≤ 134217728) fun i j => .int (i ^ j.toNat)) := opI fun _ _ _ _ _ _ _ hc q => pow_int hc.1 (by simpa using hc.2) q
theorem ve_sub (ha : VE X a te ta) (hb : VE X b tf tb) : VE X (.BinOp a .Sub b pos) (tOp (rI0 fun i j => .int (i - j)) te tf) (vbin wSub ta tb) := ve_op op_sub (ok_I0 fun _ _ => rfl) ha hb
theorem ve_div (ha : VE X a te ta) (hb : VE X b tf tb) : VE X (.BinOp a .FloorDiv b pos) (tOp (rI CDivW fun i j => .int (i / j)) te tf) (vbin wDiv ta tb) := ve_op op_fdivW (ok_I (fun _ _ h => divW h) fun _ _ _ => rfl) ha hb
theorem ve_mod (ha : VE X a te ta) (hb : VE X b tf tb) : VE X (.BinOp a .Mod b pos) (tOp (rI (fun _ j => 0 < j) fun i j => .int (i % j)) te tf) (vbin wMod ta tb) := ve_op op_mod (ok_I (fun _ _ h => h) fun _ _ _ => rfl) ha hb
theorem ve_pow (ha : VE X a te ta) (hb : VE X b tf tb) : VE X (.BinOp a .Pow b pos) (tOp (rI (fun i j => 0 ≤ j ∧ (Builtin.Int.intBits i : Int) * j ≤ 134217728) fun i j => .int (i ^ j.toNat)) te tf) (vbin wPow ta tb) := ve_op op_powW (ok_I (fun _ _ h => h) fun _ _ _ => rfl) ha hb
theorem ok_lt {K : PySem.W.Frag} : Ok2 K (rI0 fun i j => .bl (decide (i < j))) wLt := ok_I0 fun _ _ => rfl
theorem ok_le {K : PySem.W.Frag} : Ok2 K (rI0 fun i j => .bl (decide (i ≤ j))) wLe := ok_I0 fun _ _ => rfl
theorem ok_gt {K : PySem.W.Frag} : Ok2 K (rI0 fun i j => .bl (decide (j < i))) wGt := ok_I0 fun _ _ => rfl
theorem ok_ge {K : PySem.W.Frag} : Ok2 K (rI0 fun i j => .bl (decide (j ≤ i))) wGe := ok_I0 fun _ _ => rfl
/-- -a -/
def wNeg : W1 := fun a C => match a with
  | .int i => C (.int (-i))
  | _ => False
theorem ok_neg {K : PySem.W.Frag} : Ok1 K (rU fun i => .int (-i)) wNeg := fun H0 H d v es C Q s hw k => by
  cases d with
  | int i =>
    obtain rfl := Option.some.inj s.is_int
    exact ⟨i, rfl, k _ _ H hw (s.drop1.scal rfl)⟩
  | _ => exact (show False from hw).elim
theorem ve_neg (ha : VE X a te ta) : VE X (.UnaryOp .USub a pos) (tUn (rU fun i => .int (-i)) te) (vun wNeg ta) := ve_un un_neg ok_neg ha
end

/-! ### + and * -/
def wAdd : W2 := fun a b C => match a, b with
  | .int i, .int j => C (.int (i + j))
  | .int i, .bl k => C (.int (i + b2i k))
  | .str x, .str y => x.length + y.length ≤ 16777216 ∧ C (.str (x ++ y))
  | .lst _ xs, .lst _ ys => xs.length + ys.length ≤ 16777216 ∧ C (.lst true (xs ++ ys))
  | .tup xs, .tup ys => xs ≠ [] ∧ ys ≠ [] ∧ xs.length + ys.length ≤ 16777216 ∧ C (.tup (xs ++ ys))
  | _, _ => False
def rAddV (K : PySem.W.Frag) : R2 := fun x y H Q => rI0 (fun i j => .int (i + j)) x y H Q ∨ ((∃ i k, x = .int i ∧ y = .bl k ∧ Q (.int (i + b2i k)) H) ∨ ((∃ i j, x = .str i ∧ y = .str j ∧ i.length + j.length ≤ sizeLine ∧ Q (.str (i ++ j)) H) ∨ (rCat x y H Q ∨ rCatT K x y H Q)))
def wMul : W2 := fun a b C => match a, b with
  | .int i, .int j => (Big i ∧ Big j) ∧ C (.int (i * j))
  | .lst _ xs, .int k => k < 2 ^ 31 ∧ -(2 ^ 31) < k ∧ xs.length * k.toNat ≤ 16777216 ∧ isFzL xs = true ∧ C (.lst true (List.replicate k.toNat xs).flatten)
  | _, _ => False
def rMulV : R2 := fun x y H Q => rI CMulW (fun i j => .int (i * j)) x y H Q ∨ rRep x y H Q
section
variable {X : Cx} {a b : Expr} {te tf : TE} {ta tb : TV} {pos : Pos}
theorem op_addV : OpR X (binaryOp .Add) (rAddV X.K) := op_add.or (op_add_ib.or (op_add_str.or (op_cat.or op_catT)))
theorem swap12 {K : PySem.W.Frag} {H0 H : Hp} {e1 e2 : En} {es : List En} (s : Sep K H0 H (e1 :: e2 :: es)) : Sep K H0 H (e2 :: e1 :: es) := s.perm (.swap _ _ _)
theorem ok_add {K : PySem.W.Frag} : Ok2 K (rAddV K) wAdd := fun H0 H a b u v es C Q s hw k => by
  cases a with
  | int i =>
    cases b with
    | int j =>
      obtain rfl := Option.some.inj s.is_int
      obtain rfl := Option.some.inj s.drop1.is_int
      exact .inl ⟨i, j, rfl, rfl, k _ _ H hw (s.drop1.drop1.scal rfl)⟩
    | bl j =>
      obtain rfl := Option.some.inj s.is_bl
      obtain rfl := Option.some.inj s.drop1.is_int
      exact .inr (.inl ⟨i, j, rfl, rfl, k _ _ H hw (s.drop1.drop1.scal rfl)⟩)
    | _ => exact (show False from hw).elim
  | str x =>
    cases b with
    | str y =>
      obtain rfl := Option.some.inj s.is_str
      obtain rfl := Option.some.inj s.drop1.is_str
      exact .inr (.inr (.inl ⟨x, y, rfl, rfl, by rw [sizeLine_eq]; exact hw.1, k _ _ H hw.2 (s.drop1.drop1.scal rfl)⟩))
    | _ => exact (show False from hw).elim
  | lst o xs =>
    cases b with
    | lst o' ys =>
      obtain ⟨q, ws, e1, hq, l1, s1⟩ := s.readL
      obtain rfl := Option.some.inj e1
      have s2 : Sep K H0 H ((.lst o xs, some u) :: (ens ys ws ++ es)) := (s1.drop1).perm List.perm_middle
      obtain ⟨p, us, e2, hp, l2, s3⟩ := s2.readL
      obtain rfl := Option.some.inj e2
      refine .inr (.inr (.inr (.inl ⟨p, q, us, ws, rfl, rfl, hp, hq, by rw [sizeLine_eq, ← l1, ← l2]; exact hw.1, fun r hr => k _ _ _ hw.2 ?_⟩)))
      have s4 : Sep K H0 H (ens (xs ++ ys) (us ++ ws) ++ es) := by
        rw [ens_append l2, List.append_assoc]; exact s3.drop1
      exact s4.newL (by simp [l1, l2]) hr
    | _ => exact (show False from hw).elim
  | tup xs =>
    cases b with
    | tup ys =>
      obtain ⟨q, ws, e1, hq, l1, s1⟩ := s.readT
      obtain rfl := Option.some.inj e1
      have s2 : Sep K H0 H ((.tup xs, some u) :: (ens ys ws ++ es)) := s1.perm List.perm_middle
      obtain ⟨p, us, e2, hp, l2, s3⟩ := s2.readT
      obtain rfl := Option.some.inj e2
      have n1 : us ≠ [] := fun z => hw.1 (List.length_eq_zero_iff.mp (by rw [l2, z]; rfl))
      have n2 : ws ≠ [] := fun z => hw.2.1 (List.length_eq_zero_iff.mp (by rw [l1, z]; rfl))
      refine .inr (.inr (.inr (.inr ⟨p, q, us, ws, rfl, rfl, hp, hq, n1, by rw [sizeLine_eq, ← l1, ← l2]; exact hw.2.2.1, fun z => absurd z n2, fun _ r hr => k _ _ _ hw.2.2.2 ?_⟩)))
      have s4 : Sep K H0 H (ens (xs ++ ys) (us ++ ws) ++ es) := by
        rw [ens_append l2, List.append_assoc]; exact s3
      exact s4.newT (by simp [l1, l2]) hr
    | _ => exact (show False from hw).elim
  | _ => exact (show False from hw).elim
theorem ve_add (ha : VE X a te ta) (hb : VE X b tf tb) : VE X (.BinOp a .Add b pos) (tOp (rAddV X.K) te tf) (vbin wAdd ta tb) := ve_op op_addV ok_add ha hb
theorem op_mulV : OpR X (binaryOp .Mult) rMulV := op_mulW.or op_rep
theorem Sep.dupL {K : PySem.W.Frag} {H0 H : Hp} : ∀ {xs : List D} {ws : List V} {es : List En}, isFzL xs = true → Sep K H0 H (ens xs ws ++ es) → Sep K H0 H (ens xs ws ++ (ens xs ws ++ es))
  | [], [], es, _, s => s
  | [], _ :: _, es, _, s => s
  | _ :: _, [], es, _, s => s
  | d :: ds, v :: vs, es, z, s => by
    have z' : isFz d = true ∧ isFzL ds = true := by simpa [isFzL] using z
    have s1 : Sep K H0 H ((d, some v) :: (ens ds vs ++ es)) := s
    have s2 : Sep K H0 H ((d, some v) :: (d, some v) :: (ens ds vs ++ es)) := s1.dup z'.1
    have s3 : Sep K H0 H (ens ds vs ++ ((d, some v) :: (d, some v) :: es)) := s2.perm (by
      refine (List.Perm.trans ?_ (List.perm_middle.symm))
      exact List.Perm.cons _ List.perm_middle.symm)
    have s4 := Sep.dupL z'.2 s3
    refine s4.perm ?_
    show (ens ds vs ++ (ens ds vs ++ ((d, some v) :: (d, some v) :: es))).Perm ((d, some v) :: (ens ds vs ++ ((d, some v) :: (ens ds vs ++ es))))
    have h1 : (ens ds vs ++ ((d, some v) :: (d, some v) :: es)).Perm ((d, some v) :: (d, some v) :: (ens ds vs ++ es)) := List.perm_middle.trans (List.Perm.cons _ List.perm_middle)
    refine (List.Perm.append_left _ h1).trans ?_
    exact List.perm_middle
theorem Sep.repL {K : PySem.W.Frag} {H0 H : Hp} {xs : List D} {ws : List V} {es : List En} (z : isFzL xs = true) (hl : xs.length = ws.length) (s : Sep K H0 H (ens xs ws ++ es)) : ∀ n : Nat, Sep K H0 H (ens (List.replicate n xs).flatten (List.replicate n ws).flatten ++ (ens xs ws ++ es))
  | 0 => s
  | n + 1 => by
    have s1 := Sep.repL z hl s n
    have s2 : Sep K H0 H (ens xs ws ++ (ens (List.replicate n xs).flatten (List.replicate n ws).flatten ++ es)) := s1.perm (pm3 _ _ _)
    have s3 := Sep.dupL z s2
    rw [List.replicate_succ, List.replicate_succ, List.flatten_cons, List.flatten_cons, ens_append hl, List.append_assoc]
    exact s3.perm (List.Perm.append_left _ (pm3 _ _ _))
theorem flat_rep_len {α : Type} (xs : List α) : ∀ n : Nat, (List.replicate n xs).flatten.length = n * xs.length
  | 0 => by simp
  | n + 1 => by rw [List.replicate_succ, List.flatten_cons, List.length_append, flat_rep_len xs n, Nat.succ_mul, Nat.add_comm]
theorem ok_mul {K : PySem.W.Frag} : Ok2 K rMulV wMul := fun H0 H a b u v es C Q s hw k => by
  cases a with
  | int i =>
    cases b with
    | int j =>
      obtain rfl := Option.some.inj s.is_int
      obtain rfl := Option.some.inj s.drop1.is_int
      exact .inl ⟨i, j, rfl, rfl, mulW hw.1, k _ _ H hw.2 (s.drop1.drop1.scal rfl)⟩
    | _ => exact (show False from hw).elim
  | lst o xs =>
    cases b with
    | int j =>
      obtain rfl := Option.some.inj s.is_int
      obtain ⟨p, us, e2, hp, l2, s3⟩ := s.drop1.readL
      obtain rfl := Option.some.inj e2
      refine .inr ⟨p, j, us, rfl, rfl, hp, by have := hw.2.1; omega, by have := hw.1; omega, by rw [sizeLine_eq, ← l2]; exact hw.2.2.1, fun r hr => k _ _ _ hw.2.2.2.2 ?_⟩
      have s4 := Sep.repL hw.2.2.2.1 l2 s3.drop1 j.toNat
      have s5 : Sep K H0 H (ens (List.replicate j.toNat xs).flatten (List.replicate j.toNat us).flatten ++ es) := (s4.perm (pm3 _ _ _)).dropL
      exact s5.newL (by rw [flat_rep_len, flat_rep_len, l2]) hr
    | _ => exact (show False from hw).elim
  | _ => exact (show False from hw).elim
theorem ve_mul (ha : VE X a te ta) (hb : VE X b tf tb) : VE X (.BinOp a .Mult b pos) (tOp rMulV te tf) (vbin wMul ta tb) := ve_op op_mulV ok_mul ha hb
end
end VL
/-! data compared, looked at, cut; built-ins -/
namespace VL
open PySem PySem.Spec PyProof.Rows L2

/-! ### data -/
mutual
def pyD : D → PyData
  | .non => .none
  | .bl b => .bool b
  | .int i => .int i
  | .str x => .str x
  | .lst _ xs => .list (pyL xs)
  | .tup xs => .tuple (pyL xs)
  | _ => .none
def pyL : List D → List PyData
  | [] => []
  | d :: ds => pyD d :: pyL ds
end
mutual
/-- plain data of at most so many levels -/
def shp : D → Nat → Bool
  | .non, _ => true
  | .bl _, _ => true
  | .int _, _ => true
  | .str x, _ => PyData.strOk x
  | .lst _ xs, n + 1 => shpL xs n
  | .tup xs, n + 1 => shpL xs n
  | _, _ => false
def shpL : List D → Nat → Bool
  | [], _ => true
  | d :: ds, n => shp d n && shpL ds n
end
theorem shpL_all : ∀ (ds : List D) (n : Nat), shpL ds n = ds.all fun d => shp d n
  | [], _ => rfl
  | d :: ds, n => by simp [shpL, shpL_all ds n]
section
variable {K : PySem.W.Frag} {B H : Hp}
mutual
theorem dp_rl (hB : Same B H) : ∀ (d : D) (n : Nat) (v : V) (f : List Addr), shp d n = true → Rl K B H d v f → Dp K H v (pyD d)
  | .non, _, v, f, _, h => by rw [h.1]; exact .non
  | .bl b, _, v, f, _, h => by rw [h.1]; exact .bl b
  | .int i, _, v, f, _, h => by rw [h.1]; exact .int i
  | .str x, _, v, f, _, h => by rw [h.1]; exact .str x
  | .lst o xs, n + 1, v, f, hs, h => by
    obtain ⟨p, vs, g, e, hl, hc⟩ := h
    subst e
    have hp : H p = some (.lst vs) := by
      rcases hc with ⟨_, hp, _⟩ | ⟨_, hp, _⟩
      · exact hp
      · exact hB _ _ hp
    exact .lst (SqL.of hp) (dp_rlL hB xs n vs g hs hl)
  | .tup xs, n + 1, v, f, hs, h => by
    obtain ⟨p, vs, e, ht, hl⟩ := h
    subst e
    exact .tup ht (dp_rlL hB xs n vs f hs hl)
  | .lst _ _, 0, _, _, hs, _ => by cases hs
  | .tup _, 0, _, _, hs, _ => by cases hs
  | .dic _ _ _, 0, _, _, hs, _ => by cases hs
  | .dic _ _ _, _ + 1, _, _, hs, _ => by cases hs
  | .hnd _, 0, _, _, hs, _ => by cases hs
  | .hnd _, _ + 1, _, _, hs, _ => by cases hs
  | .nod _, 0, _, _, hs, _ => by cases hs
  | .nod _, _ + 1, _, _, hs, _ => by cases hs
  | .ndt _, 0, _, _, hs, _ => by cases hs
  | .ndt _, _ + 1, _, _, hs, _ => by cases hs
  | .scr _, 0, _, _, hs, _ => by cases hs
  | .scr _, _ + 1, _, _, hs, _ => by cases hs
  | .junk, 0, _, _, hs, _ => by cases hs
  | .junk, _ + 1, _, _, hs, _ => by cases hs
theorem dp_rlL (hB : Same B H) : ∀ (ds : List D) (n : Nat) (vs : List V) (f : List Addr), shpL ds n = true → RlL K B H ds vs f → DpAll K H vs (pyL ds)
  | [], _, _, _, _, h => by rw [h.1]; exact .nil
  | d :: ds, n, vs, f, hs, h => by
    have hs' : shp d n = true ∧ shpL ds n = true := by simpa [shpL] using hs
    obtain ⟨v, r, g, h', rfl, ef, h1, h2⟩ := h
    exact .cons (dp_rl hB d n v g hs'.1 h1) (dp_rlL hB ds n r h' hs'.2 h2)
end
mutual
theorem shp_can : ∀ (d : D) (n : Nat), shp d n = true → PyData.canLay0 (pyD d) = true ∧ (pyD d).depth ≤ n
  | .non, _, _ => ⟨by simp [pyD, PyData.canLay0], by simp [pyD, PyData.depth]⟩
  | .bl b, _, _ => ⟨by simp [pyD, PyData.canLay0], by simp [pyD, PyData.depth]⟩
  | .int i, _, _ => ⟨by simp [pyD, PyData.canLay0], by simp [pyD, PyData.depth]⟩
  | .str x, _, h => ⟨by simpa [pyD, PyData.canLay0, shp] using h, by simp [pyD, PyData.depth]⟩
  | .lst o xs, n + 1, hs => by
    obtain ⟨a, b⟩ := shpL_can xs n hs
    exact ⟨by simpa [pyD, PyData.canLay0] using a, by simp [pyD, PyData.depth]; omega⟩
  | .tup xs, n + 1, hs => by
    obtain ⟨a, b⟩ := shpL_can xs n hs
    exact ⟨by simpa [pyD, PyData.canLay0] using a, by simp [pyD, PyData.depth]; omega⟩
  | .lst _ _, 0, hs => by cases hs
  | .tup _, 0, hs => by cases hs
  | .dic _ _ _, 0, hs => by cases hs
  | .dic _ _ _, _ + 1, hs => by cases hs
  | .hnd _, 0, hs => by cases hs
  | .hnd _, _ + 1, hs => by cases hs
  | .nod _, 0, hs => by cases hs
  | .nod _, _ + 1, hs => by cases hs
  | .ndt _, 0, hs => by cases hs
  | .ndt _, _ + 1, hs => by cases hs
  | .scr _, 0, hs => by cases hs
  | .scr _, _ + 1, hs => by cases hs
  | .junk, 0, hs => by cases hs
  | .junk, _ + 1, hs => by cases hs
theorem shpL_can : ∀ (ds : List D) (n : Nat), shpL ds n = true → PyData.canLayAll0 (pyL ds) = true ∧ PyData.depthAll (pyL ds) ≤ n
  | [], _, _ => ⟨by simp [pyL, PyData.canLayAll0], by simp [pyL, PyData.depthAll]⟩
  | d :: ds, n, hs => by
    have hs' : shp d n = true ∧ shpL ds n = true := by simpa [shpL] using hs
    obtain ⟨a, b⟩ := shp_can d n hs'.1
    obtain ⟨a2, b2⟩ := shpL_can ds n hs'.2
    exact ⟨by simp [pyL, PyData.canLayAll0, a, a2], by simp [pyL, PyData.depthAll]; omega⟩
end
theorem shp_shaped {d : D} {n : Nat} (h : shp d n = true) (hn : n ≤ 64) : SeqAt.shaped (pyD d) = true := by
  obtain ⟨a, b⟩ := shp_can d n h
  unfold SeqAt.shaped
  simp [a]
  omega
theorem Sep.dp {H0 : Hp} {d : D} {n : Nat} {v : V} {es : List En} (s : Sep K H0 H ((d, some v) :: es)) (hs : shp d n = true) : Dp K H v (pyD d) := by
  obtain ⟨B, f, h0, hB, ⟨g, h', rfl, r1, r2⟩, nd, hn⟩ := s
  rcases r1 with ⟨e, _⟩ | ⟨w, e, r1⟩
  · have e : d = .junk := e
    subst e
    cases n <;> cases hs
  · obtain rfl := Option.some.inj e
    exact dp_rl hB d n _ g hs r1
end

/-! ### ==, != -/
def eqD (a b : D) : Bool := match a, b with
  | .int i, .int j => decide (i = j)
  | .bl i, .bl j => decide (i = j)
  | .str i, .str j => decide (i = j)
  | a, b => PyData.eqv (pyD a) (pyD b)
def eqC (a b : D) : Prop := match a, b with
  | .int _, .int _ => True
  | .bl _, .bl _ => True
  | .str _, .str _ => True
  | a, b => shp a 60 = true ∧ shp b 60 = true
def wEq : W2 := fun a b C => eqC a b ∧ C (.bl (eqD a b))
def wNe : W2 := fun a b C => eqC a b ∧ C (.bl (!eqD a b))
def rEqV (K : PySem.W.Frag) : R2 := fun x y H Q => rEq x y H Q ∨ rEqD K x y H Q
def rNeV (K : PySem.W.Frag) : R2 := fun x y H Q => rNe x y H Q ∨ rNeD K x y H Q
section
variable {X : Cx} {a b : Expr} {te tf : TE} {ta tb : TV} {pos : Pos}
theorem eq_cases {K : PySem.W.Frag} {H0 H : Hp} {a b : D} {u v : V} {es : List En} (s : Sep K H0 H ((b, some v) :: (a, some u) :: es)) (c : eqC a b) :
    (scal u v = true ∧ decide (u = v) = eqD a b) ∨ (∃ d e, Dp K H u d ∧ Dp K H v e ∧ SeqAt.shaped d = true ∧ SeqAt.shaped e = true ∧ PyData.eqv d e = eqD a b) := by
  have gen : shp a 60 = true → shp b 60 = true → eqD a b = PyData.eqv (pyD a) (pyD b) → (scal u v = true ∧ decide (u = v) = eqD a b) ∨ (∃ d e, Dp K H u d ∧ Dp K H v e ∧ SeqAt.shaped d = true ∧ SeqAt.shaped e = true ∧ PyData.eqv d e = eqD a b) := fun h1 h2 e =>
    .inr ⟨pyD a, pyD b, Sep.dp (swap12 s) h1, Sep.dp s h2, shp_shaped h1 (by decide), shp_shaped h2 (by decide), e.symm⟩
  cases a <;> cases b <;> first
    | exact gen c.1 c.2 rfl
    | (obtain rfl := Option.some.inj s.is_int
       obtain rfl := Option.some.inj s.drop1.is_int
       exact .inl ⟨rfl, by simp [eqD]⟩)
    | (obtain rfl := Option.some.inj s.is_bl
       obtain rfl := Option.some.inj s.drop1.is_bl
       exact .inl ⟨rfl, by simp [eqD]⟩)
    | (obtain rfl := Option.some.inj s.is_str
       obtain rfl := Option.some.inj s.drop1.is_str
       exact .inl ⟨rfl, by simp [eqD]⟩)
theorem ok_eq {K : PySem.W.Frag} : Ok2 K (rEqV K) wEq := fun H0 H a b u v es C Q s hw k => by
  have fin : ∀ r, r = eqD a b → Q (.bl r) H := fun r e => k _ _ H hw.2 (s.drop1.drop1.scal (show V.bl r = .bl (eqD a b) by rw [e]))
  rcases eq_cases s hw.1 with ⟨h1, h2⟩ | ⟨d, e, h1, h2, h3, h4, h5⟩
  · exact .inl ⟨h1, fin _ h2⟩
  · exact .inr ⟨d, e, h1, h2, h3, h4, fin _ h5⟩
theorem ok_ne {K : PySem.W.Frag} : Ok2 K (rNeV K) wNe := fun H0 H a b u v es C Q s hw k => by
  have fin : ∀ r, r = eqD a b → Q (.bl (!r)) H := fun r e => k _ _ H hw.2 (s.drop1.drop1.scal (show V.bl (!r) = .bl (!eqD a b) by rw [e]))
  rcases eq_cases s hw.1 with ⟨h1, h2⟩ | ⟨d, e, h1, h2, h3, h4, h5⟩
  · exact .inl ⟨h1, fin _ h2⟩
  · exact .inr ⟨d, e, h1, h2, h3, h4, fin _ h5⟩
theorem op_eqV (hu : X.A.units + 64 < cLine) : OpR X (compareOp .Eq) (rEqV X.K) := op_eq.or (op_eqD hu)
theorem op_neV (hu : X.A.units + 64 < cLine) : OpR X (compareOp .NotEq) (rNeV X.K) := op_ne.or (op_neD hu)

/-! ### is None, is True -/
def isNonD : D → Bool
  | .non => true
  | _ => false
def wIsN : W2 := fun a b C => match b with
  | .non => real a = true ∧ C (.bl (isNonD a))
  | .bl y => (match a with | .bl x => C (.bl (decide (x = y))) | _ => False)
  | _ => False
def wNotN : W2 := fun a b C => match b with
  | .non => real a = true ∧ C (.bl (!isNonD a))
  | .bl y => (match a with | .bl x => C (.bl (!decide (x = y))) | _ => False)
  | _ => False
def rIsV : R2 := fun x y H Q => (y = .non ∧ Q (.bl (decide (x = .non))) H) ∨ rIsB x y H Q
def rNotV : R2 := fun x y H Q => (y = .non ∧ Q (.bl (!decide (x = .non))) H) ∨ rNotB x y H Q
theorem op_isV : OpR X (compareOp .Is) rIsV := op_isN.or op_isBl
theorem op_notV : OpR X (compareOp .IsNot) rNotV := op_notN.or op_notBl
theorem Sep.nonD {K : PySem.W.Frag} {H0 H : Hp} {d : D} {v : V} {es : List En} (s : Sep K H0 H ((d, some v) :: es)) (r : real d = true) : decide (v = .non) = isNonD d := by
  obtain ⟨B, f, h0, hB, ⟨g, h', rfl, r1, r2⟩, nd, hn⟩ := s
  rcases r1 with ⟨e, _⟩ | ⟨w, e, r1⟩
  · have e : d = .junk := e
    subst e; cases r
  · obtain rfl := Option.some.inj e
    cases d with
    | non => rw [r1.1]; rfl
    | bl b => rw [r1.1]; rfl
    | int b => rw [r1.1]; rfl
    | str b => rw [r1.1]; rfl
    | lst o xs => obtain ⟨p, vs, g, e, _⟩ := r1; rw [e]; rfl
    | tup xs => obtain ⟨p, vs, e, _⟩ := r1; rw [e]; rfl
    | dic o ks xs => obtain ⟨p, vs, g, e, _⟩ := r1; rw [e]; rfl
    | hnd o => cases r
    | nod o => obtain ⟨p, e, _⟩ := r1; rw [e]; rfl
    | ndt o => obtain ⟨p, e, _⟩ := r1; rw [e]; rfl
    | scr o => obtain ⟨p, e, _⟩ := r1; rw [e]; rfl
    | junk => cases r
theorem ok_isN {K : PySem.W.Frag} : Ok2 K rIsV wIsN := fun H0 H a b u v es C Q s hw k => by
  cases b with
  | non =>
    obtain rfl := Option.some.inj s.is_non
    refine .inl ⟨rfl, k _ _ H hw.2 (s.drop1.drop1.scal ?_)⟩
    show V.bl _ = V.bl _
    rw [Sep.nonD s.drop1 hw.1]
  | bl y =>
    cases a with
    | bl x =>
      obtain rfl := Option.some.inj s.is_bl
      obtain rfl := Option.some.inj s.drop1.is_bl
      exact .inr ⟨x, y, rfl, rfl, k _ _ H hw (s.drop1.drop1.scal rfl)⟩
    | _ => exact (show False from hw).elim
  | _ => exact (show False from hw).elim
theorem ok_notN {K : PySem.W.Frag} : Ok2 K rNotV wNotN := fun H0 H a b u v es C Q s hw k => by
  cases b with
  | non =>
    obtain rfl := Option.some.inj s.is_non
    refine .inl ⟨rfl, k _ _ H hw.2 (s.drop1.drop1.scal ?_)⟩
    show V.bl _ = V.bl _
    rw [Sep.nonD s.drop1 hw.1]
  | bl y =>
    cases a with
    | bl x =>
      obtain rfl := Option.some.inj s.is_bl
      obtain rfl := Option.some.inj s.drop1.is_bl
      exact .inr ⟨x, y, rfl, rfl, k _ _ H hw (s.drop1.drop1.scal rfl)⟩
    | _ => exact (show False from hw).elim
  | _ => exact (show False from hw).elim

/-! ### in, not in: flat things -/
def flatD : D → Bool
  | .non => true
  | .bl _ => true
  | .int _ => true
  | .str _ => true
  | _ => false
def toV : D → V
  | .bl b => .bl b
  | .int i => .int i
  | .str x => .str x
  | _ => .non
def itemsD : D → Option (List D)
  | .lst _ xs => some xs
  | .tup xs => some xs
  | _ => none
def wIn (neg : Bool) : W2 := fun a b C => match itemsD b with
  | some xs => flatD a = true ∧ xs.all flatD = true ∧ C (.bl (if neg then !inV (toV a) (xs.map toV) else inV (toV a) (xs.map toV)))
  | none => False
theorem Sep.flat {K : PySem.W.Frag} {H0 H : Hp} {d : D} {v : V} {es : List En} (s : Sep K H0 H ((d, some v) :: es)) (r : flatD d = true) : v = toV d ∧ flatV v = true := by
  cases d with
  | non => obtain rfl := Option.some.inj s.is_non; exact ⟨rfl, rfl⟩
  | bl b => obtain rfl := Option.some.inj s.is_bl; exact ⟨rfl, rfl⟩
  | int b => obtain rfl := Option.some.inj s.is_int; exact ⟨rfl, rfl⟩
  | str b => obtain rfl := Option.some.inj s.is_str; exact ⟨rfl, rfl⟩
  | _ => cases r
theorem Sep.flats {K : PySem.W.Frag} {H0 H : Hp} : ∀ {xs : List D} {ws : List V} {es : List En}, xs.length = ws.length → Sep K H0 H (ens xs ws ++ es) → xs.all flatD = true → ws = xs.map toV ∧ ws.all flatV = true
  | [], [], _, _, _, _ => ⟨rfl, rfl⟩
  | [], _ :: _, _, h, _, _ => by cases h
  | _ :: _, [], _, h, _, _ => by cases h
  | d :: ds, w :: ws, es, hl, s, hf => by
    have hf' : flatD d = true ∧ ds.all flatD = true := by simpa using hf
    have s1 : Sep K H0 H ((d, some w) :: (ens ds ws ++ es)) := s
    obtain ⟨e1, e2⟩ := s1.flat hf'.1
    obtain ⟨e3, e4⟩ := Sep.flats (by simpa using hl) s1.drop1 hf'.2
    refine ⟨by rw [List.map_cons, ← e1, ← e3], ?_⟩
    rw [List.all_cons, e2, e4]; rfl
theorem ok_in {K : PySem.W.Frag} {neg : Bool} : Ok2 K (rIn K neg) (wIn neg) := fun H0 H a b u v es C Q s hw k => by
  have fin : ∀ (xs : List D) (ws : List V) (es' : List En), itemsD b = some xs → xs.length = ws.length → Sep K H0 H (ens xs ws ++ es') → flatV u = true ∧ ws.all flatV = true ∧ Q (.bl (if neg then !inV u ws else inV u ws)) H := fun xs ws es' e hl s' => by
    unfold wIn at hw
    rw [e] at hw
    obtain ⟨e1, e2⟩ := Sep.flat s.drop1 hw.1
    obtain ⟨e3, e4⟩ := Sep.flats hl s' hw.2.1
    refine ⟨e2, e4, k _ _ H hw.2.2 (s.drop1.drop1.scal ?_)⟩
    rw [← e1, ← e3]; rfl
  cases b with
  | lst o xs =>
    obtain ⟨p, ws, e1, hp, l1, s1⟩ := s.readL
    obtain rfl := Option.some.inj e1
    exact ⟨p, ws, rfl, .inl (SqL.of hp), fin xs ws _ rfl l1 s1.drop1⟩
  | tup xs =>
    obtain ⟨p, ws, e1, hp, l1, s1⟩ := s.readT
    obtain rfl := Option.some.inj e1
    exact ⟨p, ws, rfl, .inr hp, fin xs ws _ rfl l1 s1⟩
  | _ => exact (show False from hw).elim

/-! ### o[i] -/
def wIx : W2 := fun a b C => match b with
  | .int i => (match a with
    | .lst _ xs => ∃ d, atI xs i = some d ∧ C d
    | .tup xs => ∃ d, atI xs i = some d ∧ C d
    | .str x => x.length ≤ 16777216 ∧ ∃ c, atI x.cps.toList i = some c ∧ C (.str ⟨#[c]⟩)
    | _ => False)
  | _ => False
theorem atI_len {α β : Type} {xs : List α} {ws : List β} (hl : xs.length = ws.length) {i : Int} {d : α} (h : atI xs i = some d) : ∃ j : Nat, xs[j]? = some d ∧ ∃ w : β, ws[j]? = some w ∧ atI ws i = some w := by
  unfold atI at h ⊢
  rw [← hl]
  cases e : ixN xs.length i with
  | none => rw [e] at h; cases h
  | some j =>
    rw [e] at h
    have h : xs[j]? = some d := h
    have hj : j < xs.length := (List.getElem?_eq_some_iff.mp h).1
    exact ⟨j, h, ws[j]'(hl ▸ hj), List.getElem?_eq_getElem _, List.getElem?_eq_getElem _⟩
theorem ens_get : ∀ {xs : List D} {ws : List V} {j : Nat} {d : D} {w : V}, xs.length = ws.length → xs[j]? = some d → ws[j]? = some w → ∃ rest, (ens xs ws).Perm ((d, some w) :: rest)
  | [], _, _, _, _, _, h, _ => by simp at h
  | _ :: _, [], _, _, _, _, _, h => by simp at h
  | x :: xs, v :: ws, 0, d, w, hl, h1, h2 => by
    obtain rfl : x = d := by simpa using h1
    obtain rfl : v = w := by simpa using h2
    exact ⟨ens xs ws, .refl _⟩
  | x :: xs, v :: ws, j + 1, d, w, hl, h1, h2 => by
    obtain ⟨rest, p⟩ := ens_get (xs := xs) (ws := ws) (j := j) (by simpa using hl) (by simpa using h1) (by simpa using h2)
    exact ⟨(x, some v) :: rest, (p.cons _).trans (.swap _ _ _)⟩
theorem Sep.child {K : PySem.W.Frag} {H0 H : Hp} {xs : List D} {ws : List V} {es : List En} {j : Nat} {d : D} {w : V} (s : Sep K H0 H (ens xs ws ++ es)) (hl : xs.length = ws.length) (h1 : xs[j]? = some d) (h2 : ws[j]? = some w) : Sep K H0 H ((d, some w) :: es) := by
  obtain ⟨rest, p⟩ := ens_get hl h1 h2
  have s1 : Sep K H0 H (((d, some w) :: rest) ++ es) := s.perm (p.append_right _)
  have s2 : Sep K H0 H (rest ++ ((d, some w) :: es)) := s1.perm List.perm_middle.symm
  exact s2.dropL
theorem ok_ix {K : PySem.W.Frag} : Ok2 K (rIx K) wIx := fun H0 H a b u v es C Q s hw k => by
  cases b with
  | int i =>
    obtain rfl := Option.some.inj s.is_int
    have s0 := s.drop1
    cases a with
    | lst o xs =>
      obtain ⟨d, e, c⟩ := hw
      obtain ⟨p, ws, e1, hp, l1, s1⟩ := s0.readL
      obtain rfl := Option.some.inj e1
      obtain ⟨j, h1, w, h2, h3⟩ := atI_len l1 e
      exact .inl ⟨p, ws, i, w, rfl, rfl, SqL.of hp, h3, k _ _ H c (Sep.child s1.drop1 l1 h1 h2)⟩
    | tup xs =>
      obtain ⟨d, e, c⟩ := hw
      obtain ⟨p, ws, e1, hp, l1, s1⟩ := s0.readT
      obtain rfl := Option.some.inj e1
      obtain ⟨j, h1, w, h2, h3⟩ := atI_len l1 e
      exact .inr (.inl ⟨p, ws, i, w, rfl, rfl, hp, h3, k _ _ H c (Sep.child s1 l1 h1 h2)⟩)
    | str x =>
      obtain ⟨hx, c, e, cc⟩ := hw
      obtain rfl := Option.some.inj s0.is_str
      exact .inr (.inr ⟨x, i, c, rfl, rfl, by rw [sizeLine_eq]; exact hx, e, k _ _ H cc (s0.drop1.scal rfl)⟩)
    | _ => exact (show False from hw).elim
  | _ => exact (show False from hw).elim
end
end VL
/-! cuts, built-ins by name, methods, stores into lists -/
namespace VL
open PySem PySem.Spec PyProof.Rows L2

/-! ### xs[lo:hi] -/
abbrev TVO := List D → (Option Int → List D → Prop) → Prop
structure VO (X : Cx) (e : Option Expr) (to : TO) (t : TVO) : Prop where
  pe : PO X e to
  ok : ∀ (H0 : Hp) (env : List D) (fr : List En) (σ : L2.St) (H : Hp) (C : Option Int → List D → Prop) (Q : Option Int → Hp → Prop), Rep X.K H0 H env σ fr → t env C → (∀ o env' H', C o env' → Rep X.K H0 H' env' σ fr → Q o H') → to σ H Q
def voNone : TVO := fun env C => C none env
def voSome (t : TV) : TVO := fun env C => t env fun d e1 => match d with
  | .int i => C (some i) e1
  | _ => False
def cutD (xs : List D) (lo hi : Option Int) : List D := (xs.drop (HT.sIx xs.length 0 lo)).take (HT.sIx xs.length xs.length hi - HT.sIx xs.length 0 lo)
def vsl (t : TV) (l h : TVO) : TV := fun env C => t env fun d e1 => l e1 fun lo e2 => h e2 fun hi e3 => match d with
  | .lst _ xs => C (.lst true (cutD xs lo hi)) e3
  | .scr ns => C (.lst true ((cutV (ns.map V.int) lo hi).map fun v => match v with | .int i => .int i | _ => .junk)) e3
  | _ => False
section
variable {X : Cx} {e : Expr} {te : TE} {tv : TV} {lo hi : Option Expr} {tl th : TO} {vl vh : TVO} {pos p2 : Pos}
theorem vo_none : VO X none tNoPart voNone := ⟨po_none, fun H0 env fr σ H C Q r h k => k none env H h r⟩
theorem vo_some (h : VE X e te tv) : VO X (some e) (tPart te) (voSome tv) := by
  refine ⟨po_some h.pe, fun H0 env fr σ H C Q r hc k => h.ok H0 env fr σ H _ _ r hc fun d e1 v H1 c1 r1 => ?_⟩
  cases d with
  | int i =>
    obtain rfl := Option.some.inj r1.2.is_int
    exact ⟨i, rfl, k _ e1 H1 c1 ⟨r1.1, r1.2.drop1⟩⟩
  | _ => exact (show False from c1).elim
theorem ens_cut {xs : List D} {ws : List V} {K : PySem.W.Frag} {H0 H : Hp} {es : List En} (hl : xs.length = ws.length) (i j : Nat) (s : Sep K H0 H (ens xs ws ++ es)) : Sep K H0 H (ens ((xs.drop i).take j) ((ws.drop i).take j) ++ es) := by
  have e : ens xs ws = ens (xs.take i) (ws.take i) ++ (ens ((xs.drop i).take j) ((ws.drop i).take j) ++ ens ((xs.drop i).drop j) ((ws.drop i).drop j)) := by
    rw [← ens_append (by simp [hl]), ← ens_append (by simp [hl]), List.take_append_drop, List.take_append_drop, List.take_append_drop, List.take_append_drop]
  rw [e, List.append_assoc, List.append_assoc] at s
  have s1 := s.dropL
  have s2 := s1.perm (pm3 _ _ _)
  exact s2.dropL
theorem scr_ints {K : PySem.W.Frag} {H0 H : Hp} {es : List En} (s : Sep K H0 H es) : ∀ (ws : List V), (∀ v ∈ ws, ∃ i, v = .int i) → Sep K H0 H (ens (ws.map fun v => match v with | .int i => D.int i | _ => .junk) ws ++ es)
  | [], _ => s
  | w :: ws, h => by
    obtain ⟨i, rfl⟩ := h w List.mem_cons_self
    exact (scr_ints s ws fun v hv => h v (List.mem_cons_of_mem _ hv)).scal (d := .int i) (v := .int i) rfl
theorem ve_slice (he : VE X e te tv) (hl : VO X lo tl vl) (hh : VO X hi th vh) : VE X (.Subscript e (.Slice lo hi none p2) pos) (tSl (rSlL X.K) te tl th) (vsl tv vl vh) := by
  refine ⟨pe_slice sl_list he.pe hl.pe hh.pe, fun H0 env fr σ H C Q r hc k => he.ok H0 env fr σ H _ _ r hc fun d e1 v H1 c1 r1 => ?_⟩
  refine hl.ok H0 e1 _ σ H1 _ _ r1 c1 fun l e2 H2 c2 r2 => ?_
  refine hh.ok H0 e2 _ σ H2 _ _ r2 c2 fun u e3 H3 c3 r3 => ?_
  cases d with
  | lst o xs =>
    obtain ⟨p, ws, e, hp, hl, s⟩ := r3.2.readL
    obtain rfl := Option.some.inj e
    refine ⟨p, ws, rfl, SqL.of hp, fun q hq => k _ e3 (.ref q) _ c3 ⟨r3.1, ?_⟩⟩
    have s1 := ens_cut hl (HT.sIx xs.length 0 l) (HT.sIx xs.length xs.length u - HT.sIx xs.length 0 l) s.drop1
    have e4 : cutV ws l u = (ws.drop (HT.sIx xs.length 0 l)).take (HT.sIx xs.length xs.length u - HT.sIx xs.length 0 l) := by
      unfold cutV
      rw [← hl]
    rw [e4]
    exact Sep.newL (xs := cutD xs l u) s1 (by unfold cutD; simp [hl]) hq
  | scr ns =>
    have s0 := r3.2
    obtain ⟨B, f, h0, hB, ⟨g, h', rfl, r1', r2'⟩, nd, hn⟩ := id s0
    rcases r1' with ⟨z, _⟩ | ⟨w, z, p, e2, hp, _⟩
    · cases z
    · obtain rfl := Option.some.inj z
      subst e2
      refine ⟨p, ns.map V.int, rfl, hB.seq hp, fun q hq => k _ e3 (.ref q) _ c3 ⟨r3.1, ?_⟩⟩
      have s1 := scr_ints s0.drop1 (cutV (ns.map V.int) l u) (fun v hv => by
        unfold cutV at hv
        have h1 := List.mem_of_mem_drop (List.mem_of_mem_take hv)
        obtain ⟨i, _, rfl⟩ := List.mem_map.mp h1
        exact ⟨i, rfl⟩)
      exact Sep.newL s1 (by simp) hq
  | _ => exact (show False from c3).elim
end

/-! ### built-ins by name -/
def w1 (f : D → (D → Prop) → Prop) : WN := fun ds C => match ds with
  | [d] => f d C
  | _ => False
def w2 (f : D → D → (D → Prop) → Prop) : WN := fun ds C => match ds with
  | [a, b] => f a b C
  | _ => False
def fLen : D → (D → Prop) → Prop := fun d C => match d with
  | .lst _ xs => C (.int (xs.length : Int))
  | .tup xs => C (.int (xs.length : Int))
  | .str x => x.length ≤ 16777216 ∧ C (.int (x.length : Int))
  | .scr ns => C (.int (ns.length : Int))
  | _ => False
section
variable {K : PySem.W.Frag}
theorem okN1 {r : List V → Hp → VK → Prop} {f : D → (D → Prop) → Prop} (h : ∀ (H0 H : Hp) (d : D) (v : V) (es : List En) (C : D → Prop) (Q : VK), Sep K H0 H ((d, some v) :: es) → f d C → (∀ d' v' H', C d' → Sep K H0 H' ((d', some v') :: es) → Q v' H') → r [v] H Q) : OkN K r (w1 f) := fun H0 H ds vs es C Q hl s hw k => by
  match ds, vs, hl, hw, s with
  | [d], [v], _, hw, s => exact h H0 H d v es C Q s hw k
  | [], _, _, hw, _ => exact (show False from hw).elim
  | _ :: _ :: _, _, _, hw, _ => exact (show False from hw).elim
theorem okN2 {r : List V → Hp → VK → Prop} {f : D → D → (D → Prop) → Prop} (h : ∀ (H0 H : Hp) (a b : D) (u v : V) (es : List En) (C : D → Prop) (Q : VK), Sep K H0 H ((a, some u) :: (b, some v) :: es) → f a b C → (∀ d' v' H', C d' → Sep K H0 H' ((d', some v') :: es) → Q v' H') → r [u, v] H Q) : OkN K r (w2 f) := fun H0 H ds vs es C Q hl s hw k => by
  match ds, vs, hl, hw, s with
  | [a, b], [u, v], _, hw, s => exact h H0 H a b u v es C Q s hw k
  | [], _, _, hw, _ => exact (show False from hw).elim
  | [_], _, _, hw, _ => exact (show False from hw).elim
  | _ :: _ :: _ :: _, _, _, hw, _ => exact (show False from hw).elim
theorem Sep.scrAt {H0 H : Hp} {ns : List Int} {v : V} {es : List En} (s : Sep K H0 H ((.scr ns, some v) :: es)) : ∃ p, v = .ref p ∧ SqL K H p (ns.map V.int) := by
  obtain ⟨B, f, h0, hB, ⟨g, h', rfl, r1, r2⟩, nd, hn⟩ := s
  rcases r1 with ⟨z, _⟩ | ⟨w, z, p, e2, hp, _⟩
  · cases z
  · obtain rfl := Option.some.inj z
    exact ⟨p, e2, hB.seq hp⟩
def rLenV (K : PySem.W.Frag) : List V → Hp → VK → Prop := fun xs H Q => ∃ x n, xs = [x] ∧ LenV K x H n ∧ Q (.int (n : Nat)) H
theorem ok_len : OkN K (rLenV K) (w1 fLen) := okN1 fun H0 H d v es C Q s hw k => by
  cases d with
  | lst o xs =>
    obtain ⟨p, ws, e, hp, hl, _⟩ := s.readL
    obtain rfl := Option.some.inj e
    exact ⟨_, xs.length, rfl, .inl ⟨ws, SqL.of hp, hl⟩, k _ _ H hw (s.drop1.scal rfl)⟩
  | tup xs =>
    obtain ⟨p, ws, e, hp, hl, _⟩ := s.readT
    obtain rfl := Option.some.inj e
    exact ⟨_, xs.length, rfl, .inr ⟨ws, hp, hl⟩, k _ _ H hw (s.drop1.scal rfl)⟩
  | str x =>
    obtain rfl := Option.some.inj s.is_str
    exact ⟨_, x.length, rfl, ⟨by rw [sizeLine_eq]; exact hw.1, rfl⟩, k _ _ H hw.2 (s.drop1.scal rfl)⟩
  | scr ns =>
    obtain ⟨p, rfl, hp⟩ := s.scrAt
    exact ⟨_, ns.length, rfl, .inl ⟨_, hp, by simp⟩, k _ _ H hw (s.drop1.scal rfl)⟩
  | _ => exact (show False from hw).elim
/-- list(x) -/
def fList : D → (D → Prop) → Prop := fun d C => match d with
  | .lst _ xs => C (.lst true xs)
  | .tup xs => C (.lst true xs)
  | _ => False
def rListV (K : PySem.W.Frag) : List V → Hp → VK → Prop := fun xs H Q => ∃ p ys, xs = [.ref p] ∧ (SqL K H p ys ∨ SqT K H p ys) ∧ ∀ l, H l = none → Q (.ref l) (upd H l (.lst ys))
theorem ok_list : OkN K (rListV K) (w1 fList) := okN1 fun H0 H d v es C Q s hw k => by
  cases d with
  | lst o xs =>
    obtain ⟨p, ws, e, hp, hl, s1⟩ := s.readL
    obtain rfl := Option.some.inj e
    exact ⟨p, ws, rfl, .inl (SqL.of hp), fun l hn => k _ _ _ hw (s1.drop1.newL hl hn)⟩
  | tup xs =>
    obtain ⟨p, ws, e, hp, hl, s1⟩ := s.readT
    obtain rfl := Option.some.inj e
    exact ⟨p, ws, rfl, .inr hp, fun l hn => k _ _ _ hw (s1.newL hl hn)⟩
  | _ => exact (show False from hw).elim
/-- tuple(x) -/
def fTuple : D → (D → Prop) → Prop := fun d C => match d with
  | .lst _ xs => C (.tup xs)
  | .tup xs => C (.tup xs)
  | _ => False
def rTupleV (K : PySem.W.Frag) : List V → Hp → VK → Prop := fun xs H Q => ∃ p ys, xs = [.ref p] ∧ ((SqL K H p ys ∧ ∀ l, H l = none → Q (.ref l) (upd H l (.tup ys))) ∨ (SqT K H p ys ∧ Q (.ref p) H))
theorem ok_tuple : OkN K (rTupleV K) (w1 fTuple) := okN1 fun H0 H d v es C Q s hw k => by
  cases d with
  | lst o xs =>
    obtain ⟨p, ws, e, hp, hl, s1⟩ := s.readL
    obtain rfl := Option.some.inj e
    exact ⟨p, ws, rfl, .inl ⟨SqL.of hp, fun l hn => k _ _ _ hw (s1.drop1.newT hl hn)⟩⟩
  | tup xs =>
    obtain ⟨p, ws, e, hp, hl, s1⟩ := s.readT
    obtain rfl := Option.some.inj e
    exact ⟨p, ws, rfl, .inr ⟨hp, k _ _ _ hw s⟩⟩
  | _ => exact (show False from hw).elim
/-- lists of ints and of bools, by their values -/
def intsD : List D → Option (List Int)
  | [] => some []
  | .int i :: ds => (intsD ds).map (i :: ·)
  | _ :: _ => none
def blsD : List D → Option (List Bool)
  | [] => some []
  | .bl i :: ds => (blsD ds).map (i :: ·)
  | _ :: _ => none
theorem intsD_map (ns : List Int) : intsD (ns.map D.int) = some ns := by
  induction ns with
  | nil => rfl
  | cons n ns ih => simp [intsD, ih]
theorem blsD_map (ns : List Bool) : blsD (ns.map D.bl) = some ns := by
  induction ns with
  | nil => rfl
  | cons n ns ih => simp [blsD, ih]
theorem intsD_eq : ∀ {ds : List D} {ns : List Int}, intsD ds = some ns → ds = ns.map D.int
  | [], ns, h => by obtain rfl := Option.some.inj h; rfl
  | d :: ds, ns, h => by
    cases d with
    | int i =>
      have h : (intsD ds).map (i :: ·) = some ns := h
      cases e : intsD ds with
      | none => rw [e] at h; cases h
      | some ms =>
        rw [e] at h
        obtain rfl := Option.some.inj h
        rw [List.map_cons, ← intsD_eq e]
    | _ => cases h
theorem blsD_eq : ∀ {ds : List D} {ns : List Bool}, blsD ds = some ns → ds = ns.map D.bl
  | [], ns, h => by obtain rfl := Option.some.inj h; rfl
  | d :: ds, ns, h => by
    cases d with
    | bl i =>
      have h : (blsD ds).map (i :: ·) = some ns := h
      cases e : blsD ds with
      | none => rw [e] at h; cases h
      | some ms =>
        rw [e] at h
        obtain rfl := Option.some.inj h
        rw [List.map_cons, ← blsD_eq e]
    | _ => cases h
theorem Sep.flatsI {H0 H : Hp} {ns : List Int} {ws : List V} {es : List En} (hl : (ns.map D.int).length = ws.length) (s : Sep K H0 H (ens (ns.map D.int) ws ++ es)) : ws = ns.map V.int := by
  have h := (Sep.flats hl s (by simp [flatD])).1
  rw [h, List.map_map]; rfl
theorem Sep.flatsB {H0 H : Hp} {ns : List Bool} {ws : List V} {es : List En} (hl : (ns.map D.bl).length = ws.length) (s : Sep K H0 H (ens (ns.map D.bl) ws ++ es)) : ws = ns.map V.bl := by
  have h := (Sep.flats hl s (by simp [flatD])).1
  rw [h, List.map_map]; rfl
def onInts (f : List Int → (D → Prop) → Prop) : D → (D → Prop) → Prop := fun d C => match d with
  | .lst _ xs => ∃ ns, intsD xs = some ns ∧ f ns C
  | _ => False
def onBls (f : List Bool → (D → Prop) → Prop) : D → (D → Prop) → Prop := fun d C => match d with
  | .lst _ xs => ∃ ns, blsD xs = some ns ∧ f ns C
  | _ => False
theorem ok_ints {r : List V → Hp → VK → Prop} {f : List Int → (D → Prop) → Prop} (h : ∀ (H0 H : Hp) (a : Addr) (ns : List Int) (es : List En) (C : D → Prop) (Q : VK), SqL K H a (ns.map V.int) → Sep K H0 H es → f ns C → (∀ d' v' H', C d' → Sep K H0 H' ((d', some v') :: es) → Q v' H') → r [.ref a] H Q) : OkN K r (w1 (onInts f)) := okN1 fun H0 H d v es C Q s hw k => by
  cases d with
  | lst o xs =>
    obtain ⟨ns, e, hc⟩ := hw
    obtain ⟨p, ws, e1, hp, hl, s1⟩ := s.readL
    obtain rfl := Option.some.inj e1
    obtain rfl := intsD_eq e
    rw [Sep.flatsI hl s1.drop1] at hp
    exact h H0 H p ns es C Q (SqL.of hp) s.drop1 hc k
  | _ => exact (show False from hw).elim
theorem ok_bls {r : List V → Hp → VK → Prop} {f : List Bool → (D → Prop) → Prop} (h : ∀ (H0 H : Hp) (a : Addr) (ns : List Bool) (es : List En) (C : D → Prop) (Q : VK), SqL K H a (ns.map V.bl) → Sep K H0 H es → f ns C → (∀ d' v' H', C d' → Sep K H0 H' ((d', some v') :: es) → Q v' H') → r [.ref a] H Q) : OkN K r (w1 (onBls f)) := okN1 fun H0 H d v es C Q s hw k => by
  cases d with
  | lst o xs =>
    obtain ⟨ns, e, hc⟩ := hw
    obtain ⟨p, ws, e1, hp, hl, s1⟩ := s.readL
    obtain rfl := Option.some.inj e1
    obtain rfl := blsD_eq e
    rw [Sep.flatsB hl s1.drop1] at hp
    exact h H0 H p ns es C Q (SqL.of hp) s.drop1 hc k
  | _ => exact (show False from hw).elim
def fSum : D → (D → Prop) → Prop := onInts fun ns C => C (.int ns.sum)
def fMax : D → (D → Prop) → Prop := onInts fun ns C => 0 < ns.length ∧ ∀ m, m ∈ ns → (∀ y ∈ ns, y ≤ m) → C (.int m)
def fMin : D → (D → Prop) → Prop := onInts fun ns C => 0 < ns.length ∧ ∀ m, m ∈ ns → (∀ y ∈ ns, m ≤ y) → C (.int m)
def fSorted : D → (D → Prop) → Prop := onInts fun ns C => ∀ ms : List Int, ms.Perm ns → ms.Pairwise (· ≤ ·) → C (.lst true (ms.map D.int))
def fAll : D → (D → Prop) → Prop := onBls fun ns C => C (.bl (ns.all id))
def fAny : D → (D → Prop) → Prop := onBls fun ns C => C (.bl (ns.any id))
theorem ok_sum : OkN K (rSum K) (w1 fSum) := ok_ints fun H0 H a ns es C Q h s hc k => ⟨a, ns, rfl, h, k _ _ H hc (s.scal rfl)⟩
theorem ok_max : OkN K (rMax K) (w1 fMax) := ok_ints fun H0 H a ns es C Q h s hc k => ⟨a, ns, rfl, h, hc.1, fun m h1 h2 => k _ _ H (hc.2 m h1 h2) (s.scal rfl)⟩
theorem ok_min : OkN K (rMin K) (w1 fMin) := ok_ints fun H0 H a ns es C Q h s hc k => ⟨a, ns, rfl, h, hc.1, fun m h1 h2 => k _ _ H (hc.2 m h1 h2) (s.scal rfl)⟩
theorem ok_all : OkN K (rAll K) (w1 fAll) := ok_bls fun H0 H a ns es C Q h s hc k => ⟨a, ns, rfl, h, k _ _ H hc (s.scal rfl)⟩
theorem ok_any : OkN K (rAny K) (w1 fAny) := ok_bls fun H0 H a ns es C Q h s hc k => ⟨a, ns, rfl, h, k _ _ H hc (s.scal rfl)⟩
theorem Sep.ints {H0 H : Hp} {es : List En} (s : Sep K H0 H es) : ∀ ns : List Int, Sep K H0 H (ens (ns.map D.int) (ns.map V.int) ++ es)
  | [] => s
  | n :: ns => (Sep.ints s ns).scal rfl
theorem ok_sorted : OkN K (rSortedI K) (w1 fSorted) := ok_ints fun H0 H a ns es C Q h s hc k => ⟨a, ns, rfl, h, fun ms p h1 h2 hp => k _ _ _ (hc ms h1 h2) ((s.ints ms).newL (by simp) hp)⟩
/-- max(a, b), min(a, b) -/
def fMax2 : D → D → (D → Prop) → Prop := wI0 fun i j => .int (if j > i then j else i)
def fMin2 : D → D → (D → Prop) → Prop := wI0 fun i j => .int (if j < i then j else i)
def rMax2V : List V → Hp → VK → Prop := fun xs H Q => ∃ i j, xs = [.int i, .int j] ∧ Q (.int (if j > i then j else i)) H
def rMin2V : List V → Hp → VK → Prop := fun xs H Q => ∃ i j, xs = [.int i, .int j] ∧ Q (.int (if j < i then j else i)) H
theorem ok_max2 : OkN K rMax2V (w2 fMax2) := okN2 fun H0 H a b u v es C Q s hw k => by
  cases a with
  | int i =>
    cases b with
    | int j =>
      obtain rfl := Option.some.inj s.is_int
      obtain rfl := Option.some.inj s.drop1.is_int
      exact ⟨i, j, rfl, k _ _ H hw (s.drop1.drop1.scal rfl)⟩
    | _ => exact (show False from hw).elim
  | _ => exact (show False from hw).elim
theorem ok_min2 : OkN K rMin2V (w2 fMin2) := okN2 fun H0 H a b u v es C Q s hw k => by
  cases a with
  | int i =>
    cases b with
    | int j =>
      obtain rfl := Option.some.inj s.is_int
      obtain rfl := Option.some.inj s.drop1.is_int
      exact ⟨i, j, rfl, k _ _ H hw (s.drop1.drop1.scal rfl)⟩
    | _ => exact (show False from hw).elim
  | _ => exact (show False from hw).elim
/-- int(x), abs(x) -/
def fInt : D → (D → Prop) → Prop := fun d C => match d with
  | .int i => C (.int i)
  | .bl b => C (.int (if b then 1 else 0))
  | _ => False
def rInt1 : List V → Hp → VK → Prop := fun xs H Q => (∃ i, xs = [.int i] ∧ Q (.int i) H) ∨ ∃ k, xs = [.bl k] ∧ Q (.int (if k then 1 else 0)) H
theorem ok_int : OkN K rInt1 (w1 fInt) := okN1 fun H0 H d v es C Q s hw k => by
  cases d with
  | int i =>
    obtain rfl := Option.some.inj s.is_int
    exact .inl ⟨i, rfl, k _ _ H hw (s.drop1.scal rfl)⟩
  | bl b =>
    obtain rfl := Option.some.inj s.is_bl
    exact .inr ⟨b, rfl, k _ _ H hw (s.drop1.scal rfl)⟩
  | _ => exact (show False from hw).elim
def fAbs : D → (D → Prop) → Prop := fun d C => match d with
  | .int i => C (.int (if i < 0 then -i else i))
  | _ => False
def rAbs1 : List V → Hp → VK → Prop := fun xs H Q => ∃ i, xs = [.int i] ∧ Q (.int (if i < 0 then -i else i)) H
theorem ok_abs : OkN K rAbs1 (w1 fAbs) := okN1 fun H0 H d v es C Q s hw k => by
  cases d with
  | int i =>
    obtain rfl := Option.some.inj s.is_int
    exact ⟨i, rfl, k _ _ H hw (s.drop1.scal rfl)⟩
  | _ => exact (show False from hw).elim
end
section
variable {X : Cx} {p pos : Pos} {e : Expr} {es : List Expr} {ta : TA} {t : TVA}
theorem call_lenV : CallR X (.builtin "len") (rLenV X.K) := call_len
theorem call_listV : CallR X (.type "list") (rListV X.K) := call_list_of
theorem call_tupleV : CallR X (.type "tuple") (rTupleV X.K) := call_tuple_of
theorem call_max2V (hc : X.calm = true) : CallR X (.builtin "max") rMax2V := call_max2 hc
theorem call_min2V (hc : X.calm = true) : CallR X (.builtin "min") rMin2V := call_min2 hc
theorem call_intV : CallR X (.type "int") rInt1 := call_int1
theorem call_absV : CallR X (.builtin "abs") rAbs1 := call_abs
end

/-! ### isinstance -/
def isTy (T : String) (d : D) : Bool := match d with
  | .bl _ => T == "bool" || T == "int"
  | .int _ => T == "int"
  | .str _ => T == "str"
  | .lst _ _ => T == "list"
  | .scr _ => T == "list"
  | .tup _ => T == "tuple"
  | .dic _ _ _ => T == "dict"
  | _ => false
def tyName (d : D) : String := match d with
  | .non => "NoneType"
  | .bl _ => "bool"
  | .int _ => "int"
  | .str _ => "str"
  | .lst _ _ => "list"
  | .scr _ => "list"
  | .tup _ => "tuple"
  | _ => "dict"
def tested (d : D) : Bool := match d with
  | .hnd _ => false
  | .nod _ => false
  | .ndt _ => false
  | .junk => false
  | _ => true
section
variable {K : PySem.W.Frag} {H0 H : Hp}
theorem Sep.tyX {d : D} {v : V} {es : List En} (s : Sep K H0 H ((d, some v) :: es)) (r : tested d = true) : TyX K H v (.type (tyName d)) := by
  obtain ⟨B, f, h0, hB, ⟨g, h', rfl, r1, r2⟩, nd, hn⟩ := s
  rcases r1 with ⟨e, _⟩ | ⟨w, e, r1⟩
  · have e : d = .junk := e
    subst e; cases r
  · obtain rfl := Option.some.inj e
    cases d with
    | non => rw [r1.1]; exact .base .non
    | bl b => rw [r1.1]; exact .base (.bl b)
    | int b => rw [r1.1]; exact .base (.int b)
    | str b => rw [r1.1]; exact .base (.str b)
    | lst o xs =>
      obtain ⟨p, vs, g, e, _, hc⟩ := r1
      rw [e]
      rcases hc with ⟨_, hp, _⟩ | ⟨_, hp, _⟩
      · exact .base (.lst hp)
      · exact .base (.lst (hB _ _ hp))
    | tup xs =>
      obtain ⟨p, vs, e, ht, _⟩ := r1
      rw [e]
      rcases ht with (ht | ⟨o, ht⟩) | ⟨o, its, n, hk, hc, _⟩
      · exact .base (.tup ht)
      · exact .fTuple ht
      · exact .kTuple hk hc
    | dic o ks xs =>
      obtain ⟨p, vs, g, e, _, _, hc⟩ := r1
      rw [e]
      rcases hc with ⟨_, hp, _⟩ | ⟨_, hp, _⟩
      · exact .base (.dK hp)
      · exact .base (.dK (hB _ _ hp))
    | scr ns =>
      obtain ⟨p, e, hp, _⟩ := r1
      rw [e]
      rcases hB.seq hp with (ht | ⟨o, ht⟩) | ⟨o, its, n, hk, hc, _⟩
      · exact .base (.lst ht)
      · exact .base (.frz ht)
      · exact .kList hk hc
    | _ => cases r
end
def kinds6 : List String := ["int", "bool", "str", "list", "tuple", "dict"]
theorem kit6 (T : String) (d : D) (hT : T ∈ kinds6) (r : tested d = true) : kitB (tyName d) T = some (isTy T d) := by
  have h : ∀ a ∈ ["NoneType", "bool", "int", "str", "list", "tuple", "dict"], ∀ T ∈ kinds6, kitB a T = some (a == T || (a == "bool" && T == "int")) := by decide +kernel
  have e : (tyName d == T || (tyName d == "bool" && T == "int")) = isTy T d := by
    have h2 : ∀ T ∈ kinds6, (("NoneType" == T || ("NoneType" == "bool" && T == "int")) = false) ∧ (("bool" == T || ("bool" == "bool" && T == "int")) = (T == "bool" || T == "int")) ∧ (("int" == T || ("int" == "bool" && T == "int")) = (T == "int")) ∧ (("str" == T || ("str" == "bool" && T == "int")) = (T == "str")) ∧ (("list" == T || ("list" == "bool" && T == "int")) = (T == "list")) ∧ (("tuple" == T || ("tuple" == "bool" && T == "int")) = (T == "tuple")) ∧ (("dict" == T || ("dict" == "bool" && T == "int")) = (T == "dict")) := by decide +kernel
    obtain ⟨a0, a1, a2, a3, a4, a5, a6⟩ := h2 T hT
    cases d <;> first | exact a0 | exact a1 | exact a2 | exact a3 | exact a4 | exact a5 | exact a6 | cases r
  rw [← e]
  refine h _ ?_ T hT
  cases d <;> simp [tyName]
def visi (T : String) (t : TV) : TV := fun env C => t env fun d e1 => tested d = true ∧ C (.bl (isTy T d)) e1
section
variable {X : Cx} {p p2 p3 pos : Pos} {e : Expr} {te : TE} {tv : TV} {T : String}
theorem ve_isi (hm : X.mg "isinstance" = none) (hg : Gl X "isinstance") (he : VE X e te tv) {xT : Str} (hT : PE X (.Name xT p2) (tC (.ty T))) (h6 : T ∈ kinds6 := by decide)
    (h1 : starEach [e, .Name xT p2] X.env = (false, eval e X.env) :: starEach [.Name xT p2] X.env := by rfl) (h2 : starEach [.Name xT p2] X.env = [(false, eval (.Name xT p2) X.env)] := by rfl) (hpl : (backTo pos (starEach [.Name xT p2] X.env)).any (·.1) = false := by rfl) :
    VE X (.Call (.Name "isinstance" p) [e, .Name xT p2] [] pos) (tCB (rIsi X.K) (tCons te (tCons (tC (.ty T)) tNil))) (visi T tv) := by
  refine ⟨pe_callB call_isi hg hm (by decide +kernel) (pa_cons he.pe (pa_cons hT pa_nil h2) h1) (by decide) (by decide) h1 hpl, fun H0 env fr σ H C Q r hc k => he.ok H0 env fr σ H _ _ r hc fun d e1 v H1 c1 r1 => ?_⟩
  exact ⟨v, .ty T, .type (tyName d), .type T, isTy T d, rfl, .ty T, r1.2.tyX c1.1, kit_ty (kit6 T d h6 c1.1), k _ e1 _ H1 c1.2 ⟨r1.1, r1.2.drop1.scal rfl⟩⟩
end
end VL
/-! methods of lists, stores by place, displays with a star, zip, enumerate, repr -/
namespace VL
open PySem PySem.Spec PyProof.Rows L2

section
variable {K : PySem.W.Frag} {H0 H : Hp}
theorem Rep.slotL {env : List D} {σ : L2.St} {fr : List En} {i : Nat} {o : Bool} {xs : List D} (r : Rep K H0 H env σ fr) (e : env[i]? = some (.lst o xs)) : ∃ p ws, σ[i]? = some (some (.ref p)) ∧ H p = some (.lst ws) ∧ xs.length = ws.length := by
  obtain ⟨ov, rest, h1, h2, _, _⟩ := r.focus e
  obtain ⟨p, ws, e1, hp, hl, _⟩ := h2.readL
  exact ⟨p, ws, by rw [h1, e1], hp, hl⟩
/-- an owned list in a slot gets new content; t: what it takes from the frame -/
theorem Rep.mutL {env : List D} {σ : L2.St} {fr t : List En} {i : Nat} {xs : List D} (r : Rep K H0 H env σ (t ++ fr)) (e : env[i]? = some (.lst true xs)) :
    ∃ p ws, σ[i]? = some (some (.ref p)) ∧ H p = some (.lst ws) ∧ xs.length = ws.length ∧
      ∀ (t' : List En) (ys : List D) (ws' : List V), ys.length = ws'.length → (∀ (R : List En) (H1 : Hp), Sep K H0 H1 (ens xs ws ++ (t ++ R)) → Sep K H0 H1 (ens ys ws' ++ (t' ++ R))) → Rep K H0 (upd H p (.lst ws')) (env.set i (.lst true ys)) σ (t' ++ fr) := by
  obtain ⟨ov, rest, h1, h2, _, h3⟩ := r.focus e
  obtain ⟨p, ws, e1, hp, hl, s⟩ := h2.openL
  subst e1
  refine ⟨p, ws, h1, hp, hl, fun t' ys ws' hl' f => h3 H0 _ _ _ ?_⟩
  have s1 : Sep K H0 (upd H p (.lst ws')) ((.hnd (.lst ws'), some (.ref p)) :: (ens xs ws ++ ((t ++ fr) ++ rest))) := s.write rfl
  have s2 : Sep K H0 (upd H p (.lst ws')) (ens xs ws ++ (t ++ (fr ++ ((.hnd (.lst ws'), some (.ref p)) :: rest)))) := by
    have e : ens xs ws ++ (t ++ (fr ++ ((.hnd (.lst ws'), some (.ref p)) :: rest))) = (ens xs ws ++ (t ++ fr)) ++ ((.hnd (.lst ws'), some (.ref p)) :: rest) := by simp [List.append_assoc]
    have e2 : ens xs ws ++ ((t ++ fr) ++ rest) = (ens xs ws ++ (t ++ fr)) ++ rest := by simp [List.append_assoc]
    rw [e]
    rw [e2] at s1
    exact s1.perm List.perm_middle.symm
  have s3 := f _ _ s2
  have s4 : Sep K H0 (upd H p (.lst ws')) ((.hnd (.lst ws'), some (.ref p)) :: (ens ys ws' ++ ((t' ++ fr) ++ rest))) := by
    have e : ens ys ws' ++ (t' ++ (fr ++ ((.hnd (.lst ws'), some (.ref p)) :: rest))) = (ens ys ws' ++ (t' ++ fr)) ++ ((.hnd (.lst ws'), some (.ref p)) :: rest) := by simp [List.append_assoc]
    have e2 : ens ys ws' ++ ((t' ++ fr) ++ rest) = (ens ys ws' ++ (t' ++ fr)) ++ rest := by simp [List.append_assoc]
    rw [e2]
    rw [e] at s3
    exact s3.perm List.perm_middle
  exact s4.closeL hl'
end

def isLstAt (env : List D) (i : Nat) : Prop := ∃ o xs, env[i]? = some (.lst o xs)
/-- x.append(e) -/
def vapp (i : Nat) (t : TV) : TV := fun env C => isLstAt env i ∧ t env fun d e1 => match e1[i]? with
  | some (.lst true xs) => xs.length < 16777216 ∧ C .non (e1.set i (.lst true (xs ++ [d])))
  | _ => False
/-- x.extend(e) -/
def vext (i : Nat) (t : TV) : TV := fun env C => isLstAt env i ∧ t env fun d e1 => match d with
  | .lst _ ys => (match e1[i]? with
    | some (.lst true xs) => xs.length + ys.length ≤ 16777216 ∧ C .non (e1.set i (.lst true (xs ++ ys)))
    | _ => False)
  | _ => False
/-- x.pop() -/
def vpop (i : Nat) : TV := fun env C => match env[i]? with
  | some (.lst true xs) => ∃ d, xs[xs.length - 1]? = some d ∧ C d (env.set i (.lst true xs.dropLast))
  | _ => False
section
variable {X : Cx} {x : Str} {e : Expr} {te : TE} {tv : TV} {apos cpos p : Pos} {i : Nat}
theorem at_lst {K : PySem.W.Frag} {env : List D} {i : Nat} {C : List D → Prop} (h : match env[i]? with | some (.lst true xs) => C xs | _ => False) : ∃ xs, env[i]? = some (.lst true xs) ∧ C xs := by
  cases e : env[i]? with
  | none => rw [e] at h; exact h.elim
  | some d =>
    rw [e] at h
    cases d with
    | lst o xs =>
      cases o with
      | true => exact ⟨xs, rfl, h⟩
      | false => exact (show False from h).elim
    | _ => exact (show False from h).elim
theorem ve_app (i : Nat) (hx : PE X (.Name x p) (tVar i)) (he : VE X e te tv) (hbase : attributeBase (.Name x p) "append" X.env (eval (.Name x p) X.env) = eval (.Name x p) X.env := by rfl)
    (hline : (apos.endLine == cpos.line) = true := by rfl) (hs : starEach [e] X.env = (false, eval e X.env) :: starEach [] X.env := by rfl)
    (hfew : ((backTo cpos (starEach [e] X.env)).all (fun x => !x.1) && (backToKw cpos (keywordEach [] X.env)).all (fun x => x.1.isSome) && decide ([e].length + ([] : List Keyword).length + (if ([] : List Keyword).isEmpty then 0 else 1) < 30)) = true := by rfl)
    (hplain : (backTo cpos (starEach [] X.env)).any (·.1) = false := by rfl) :
    VE X (.Call (.Attribute (.Name x p) "append" apos) [e] [] cpos) (tBM X.K "list" rAppend (tVar i) (tCons te tNil)) (vapp i tv) := by
  refine ⟨pe_bm PySem.F.plainAttrs_list PySem.F.slot_list_append PySem.F.type_list_append mt_append hx (pa_cons he.pe pa_nil hs) hbase hfew hline hs hplain, fun H0 env fr σ H C Q r hc k => ?_⟩
  obtain ⟨⟨o, xs, e0⟩, hc⟩ := hc
  obtain ⟨p0, ws0, h1, h2, _⟩ := r.slotL e0
  refine ⟨.ref p0, h1, .inl ⟨rfl, ws0, SqL.of h2⟩, he.ok H0 env fr σ H _ _ r hc fun d e1 v H1 c1 r1 => ?_⟩
  obtain ⟨ys, e2, c2⟩ := at_lst (K := X.K) c1
  obtain ⟨p1, ws, h3, h4, h5, h6⟩ := Rep.mutL (t := [(d, some v)]) r1 e2
  rw [h1] at h3
  obtain rfl := V.ref.inj (Option.some.inj (Option.some.inj h3))
  refine ⟨p0, ws, v, rfl, rfl, h4, by rw [sizeLine_eq, ← h5]; exact c2.1, k _ _ .non _ c2.2 (h6 [(D.non, some V.non)] (ys ++ [d]) (ws ++ [v]) (by simp [h5]) fun R H' s => ?_)⟩
  rw [ens_append h5, List.append_assoc]
  have s1 : Sep X.K H0 H' ((D.non, some V.non) :: (ens ys ws ++ ((d, some v) :: R))) := Sep.scal s rfl
  have s2 : ((D.non, some V.non) :: (ens ys ws ++ ((d, some v) :: R))).Perm (ens ys ws ++ (ens [d] [v] ++ ([(D.non, some V.non)] ++ R))) := by
    refine List.perm_middle.symm.trans (List.Perm.append_left _ ?_)
    exact .swap _ _ _
  exact s1.perm s2
theorem ve_ext (i : Nat) (hx : PE X (.Name x p) (tVar i)) (he : VE X e te tv) (hbase : attributeBase (.Name x p) "extend" X.env (eval (.Name x p) X.env) = eval (.Name x p) X.env := by rfl)
    (hline : (apos.endLine == cpos.line) = true := by rfl) (hs : starEach [e] X.env = (false, eval e X.env) :: starEach [] X.env := by rfl)
    (hfew : ((backTo cpos (starEach [e] X.env)).all (fun x => !x.1) && (backToKw cpos (keywordEach [] X.env)).all (fun x => x.1.isSome) && decide ([e].length + ([] : List Keyword).length + (if ([] : List Keyword).isEmpty then 0 else 1) < 30)) = true := by rfl)
    (hplain : (backTo cpos (starEach [] X.env)).any (·.1) = false := by rfl) :
    VE X (.Call (.Attribute (.Name x p) "extend" apos) [e] [] cpos) (tBM X.K "list" rExtend (tVar i) (tCons te tNil)) (vext i tv) := by
  refine ⟨pe_bm PySem.F.plainAttrs_list PySem.F.slot_list_extend PySem.F.type_list_extend mt_extend hx (pa_cons he.pe pa_nil hs) hbase hfew hline hs hplain, fun H0 env fr σ H C Q r hc k => ?_⟩
  obtain ⟨⟨o, xs, e0⟩, hc⟩ := hc
  obtain ⟨p0, ws0, h1, h2, _⟩ := r.slotL e0
  refine ⟨.ref p0, h1, .inl ⟨rfl, ws0, SqL.of h2⟩, he.ok H0 env fr σ H _ _ r hc fun d e1 v H1 c1 r1 => ?_⟩
  cases d with
  | lst od zs =>
    obtain ⟨ys, e2, c2⟩ := at_lst (K := X.K) c1
    obtain ⟨b, us, eb, hb, hlb, sb⟩ := Sep.readL r1.2
    obtain rfl := Option.some.inj eb
    have r2 : Rep X.K H0 H1 e1 σ (ens zs us ++ fr) := ⟨r1.1, by
      have q := sb.drop1
      rw [List.append_assoc]; exact q⟩
    obtain ⟨p1, ws, h3, h4, h5, h6⟩ := Rep.mutL (t := ens zs us) r2 e2
    rw [h1] at h3
    obtain rfl := V.ref.inj (Option.some.inj (Option.some.inj h3))
    refine ⟨p0, b, ws, us, rfl, rfl, h4, hb, by rw [sizeLine_eq, ← h5, ← hlb]; exact c2.1, k _ _ .non _ c2.2 (h6 [(D.non, some V.non)] (ys ++ zs) (ws ++ us) (by simp [h5, hlb]) fun R H' s => ?_)⟩
    rw [ens_append h5, List.append_assoc]
    have s1 : Sep X.K H0 H' ((D.non, some V.non) :: (ens ys ws ++ (ens zs us ++ R))) := Sep.scal s rfl
    refine s1.perm ?_
    refine List.perm_middle.symm.trans (List.Perm.append_left _ ?_)
    exact List.perm_middle.symm
  | _ => exact (show False from c1).elim
theorem ve_pop (i : Nat) (hx : PE X (.Name x p) (tVar i)) (hp : ∀ t, PE X (.Name x p) t → PE X (.Call (.Attribute (.Name x p) "pop" apos) [] [] cpos) (tBM0 X.K "list" rPop t)) :
    VE X (.Call (.Attribute (.Name x p) "pop" apos) [] [] cpos) (tBM0 X.K "list" rPop (tVar i)) (vpop i) := by
  refine ⟨hp _ hx, fun H0 env fr σ H C Q r hc k => ?_⟩
  obtain ⟨ys, e2, d, hd, c2⟩ := at_lst (K := X.K) hc
  obtain ⟨p1, ws, h3, h4, h5, h6⟩ := Rep.mutL (t := []) (fr := fr) r e2
  have split : ∀ {α : Type} (l : List α) (a : α), l[l.length - 1]? = some a → l = l.dropLast ++ [a] := fun l a h => by
    have hne : l ≠ [] := by rintro rfl; simp at h
    have h1 : l.getLast hne = a := by
      rw [List.getLast_eq_getElem]
      obtain ⟨_, e⟩ := List.getElem?_eq_some_iff.mp h
      exact e
    rw [← h1, List.dropLast_concat_getLast]
  have hj : ys.length - 1 < ws.length := by
    have := (List.getElem?_eq_some_iff.mp hd).1
    omega
  have hw : ws[ws.length - 1]? = some (ws[ys.length - 1]) := by rw [← h5]; exact List.getElem?_eq_getElem hj
  have ey := split ys d hd
  have ew := split ws _ hw
  refine ⟨.ref p1, h3, .inl ⟨rfl, ws, SqL.of h4⟩, p1, ws, _, rfl, rfl, h4, hw, k d _ _ _ c2 (h6 [(d, some (ws[ys.length - 1]))] ys.dropLast ws.dropLast (by simp [h5]) fun R H' s => ?_)⟩
  have el : ens ys ws = ens ys.dropLast ws.dropLast ++ [(d, some (ws[ys.length - 1]))] := by
    have q : ens ys ws = ens (ys.dropLast ++ [d]) (ws.dropLast ++ [ws[ys.length - 1]]) := by rw [← ey, ← ew]
    rw [q, ens_append (by simp [h5])]
    rfl
  rw [el, List.append_assoc] at s
  exact s
end
end VL
/-! stores by place, stars, chains, zip, enumerate, repr -/
namespace VL
open PySem PySem.Spec PyProof.Rows L2 StX RZ

/-- x[k] = e, x a slot -/
def tvSetIx (i : Nat) (t tk : TV) : TSV := fun DE env => t env fun d e1 => isLstAt e1 i ∧ tk e1 fun kd e2 => match kd with
  | .int k => (match e2[i]? with
    | some (.lst true xs) => ∃ j, ixN xs.length k = some j ∧ DE.nx (e2.set i (.lst true (xs.set j d)))
    | _ => False)
  | _ => False
section
variable {X : Cx} {FX : List Nat} {x : Str} {e ke : Expr} {te tk : TE} {tv tkv : TV} {p pos ps : Pos}
theorem vs_setIx (i : Nat) (hx : PE X (.Name x p) (tVar i)) (he : VE X e te tv) (hk : VE X ke tk tkv)
    (ha : ∀ v, assign (.Subscript (.Name x p) ke ps) X.env v = (do
      let ov ← holding [v] (eval (.Name x p) X.env)
      let iv ← holding [v, ov] (eval ke X.env)
      standAt ps
      holding [v, ov, iv] (setItem ov iv v)
      release [v, ov, iv] []) := by intro _; rfl)
    (hs : swapsWithSole [.Subscript (.Name x p) ke ps] e pos.line X.env = pure false := by rfl) (hw : swappedStores [.Subscript (.Name x p) ke ps] e X.env = pure none := by rfl)
    (h1 : (assignEach [.Subscript (.Name x p) ke ps] X.env).map (·.2) = [assign (.Subscript (.Name x p) ke ps) X.env] := by rfl) :
    VS X FX (.Assign [.Subscript (.Name x p) ke ps] e pos) (tvSetIx i tv tkv) := by
  refine ⟨_, ps_asg he.pe (pg_sub hx hk.pe set_list ha) hs hw h1, fun H0 env fr σ σ0 H DE E f r h k => he.ok H0 env fr σ H _ _ r h fun d e1 v H1 c1 r1 => ?_⟩
  obtain ⟨⟨o, xs, e0⟩, c1⟩ := c1
  obtain ⟨p0, ws0, g1, g2, _⟩ := r1.slotL e0
  refine ⟨.ref p0, g1, hk.ok H0 e1 _ σ H1 _ _ r1 c1 fun kd e2 kv H2 c2 r2 => ?_⟩
  cases kd with
  | int kk =>
    obtain rfl := Option.some.inj r2.2.is_int
    obtain ⟨ys, ey, j, hj, c3⟩ := at_lst (K := X.K) c2
    have r3 : Rep X.K H0 H2 e2 σ ([(d, some v)] ++ fr) := ⟨r2.1, r2.2.drop1⟩
    obtain ⟨p1, ws, g3, g4, g5, g6⟩ := Rep.mutL (t := [(d, some v)]) r3 ey
    rw [g1] at g3
    obtain rfl := V.ref.inj (Option.some.inj (Option.some.inj g3))
    refine ⟨p0, ws, kk, j, rfl, rfl, g4, by rw [← g5]; exact hj, k.nx _ σ _ c3 f (g6 [] (ys.set j d) (ws.set j v) (by simp [g5]) fun R H' s => ?_)⟩
    obtain ⟨_, hjl, _, _⟩ := ixN_seq hj
    -- the old item goes
    have hjw : j < ws.length := g5 ▸ hjl
    have e1' : ens ys ws = ens (ys.take j) (ws.take j) ++ ((ys[j], some ws[j]) :: ens (ys.drop (j + 1)) (ws.drop (j + 1))) := by
      have a : ys = ys.take j ++ (ys[j] :: ys.drop (j + 1)) := by rw [← List.drop_eq_getElem_cons hjl, List.take_append_drop]
      have b : ws = ws.take j ++ (ws[j] :: ws.drop (j + 1)) := by rw [← List.drop_eq_getElem_cons hjw, List.take_append_drop]
      have q : ens ys ws = ens (ys.take j ++ (ys[j] :: ys.drop (j + 1))) (ws.take j ++ (ws[j] :: ws.drop (j + 1))) := by rw [← a, ← b]
      rw [q, ens_append (by simp [g5])]
      rfl
    have e2' : ens (ys.set j d) (ws.set j v) = ens (ys.take j) (ws.take j) ++ ((d, some v) :: ens (ys.drop (j + 1)) (ws.drop (j + 1))) := by
      rw [List.set_eq_take_append_cons_drop, if_pos hjl, List.set_eq_take_append_cons_drop, if_pos hjw, ens_append (by simp [g5])]
      rfl
    rw [e1', List.append_assoc] at s
    rw [e2', List.append_assoc]
    have s1 := s.perm (pm3 _ _ _)
    have s2 : Sep X.K H0 H' (ens (ys.drop (j + 1)) (ws.drop (j + 1)) ++ (ens (ys.take j) (ws.take j) ++ ((d, some v) :: R))) := Sep.drop1 s1
    have s3 : Sep X.K H0 H' (ens (ys.take j) (ws.take j) ++ (ens (ys.drop (j + 1)) (ws.drop (j + 1)) ++ ((d, some v) :: R))) := s2.perm (pm3 _ _ _)
    refine s3.perm (List.Perm.append_left _ ?_)
    exact List.perm_middle
  | _ => exact (show False from c2).elim
end

/-! ### [*xs, e, ..] -/
def vstar (t : TV) (u : TVA) : TVA := fun env C => t env fun d e1 => match itemsD d with
  | some xs => u e1 fun ds e2 => C (xs ++ ds) e2
  | none => False
section
variable {X : Cx} {e : Expr} {es : List Expr} {te : TE} {ta : TA} {tv : TV} {u : TVA} {p : Pos}
theorem va_star (he : VE X e te tv) (hs : VA X es ta u) (hst : starEach (.Starred e p :: es) X.env = (true, eval e X.env) :: starEach es X.env := by rfl) : VA X (.Starred e p :: es) (tStar X.K te ta) (vstar tv u) := by
  refine ⟨pa_star he.pe hs.pe hst, fun H0 env fr σ H C Q r hc k => he.ok H0 env fr σ H _ _ r hc fun d e1 v H1 c1 r1 => ?_⟩
  have go : ∀ (xs : List D) (q : Addr) (ws : List V), itemsD d = some xs → v = .ref q → (SqT X.K H1 q ws ∨ SqL X.K H1 q ws) → xs.length = ws.length → Sep X.K H0 H1 (ens xs ws ++ (fr ++ e1.zip σ)) → ∃ p xs, v = .ref p ∧ (SqT X.K H1 p xs ∨ SqL X.K H1 p xs) ∧ ta σ H1 fun ys H2 => Q (xs ++ ys) H2 := fun xs q ws ei ev hq hl s => by
    refine ⟨q, ws, ev, hq, ?_⟩
    rw [ei] at c1
    have r2 : Rep X.K H0 H1 e1 σ (ens xs ws ++ fr) := ⟨r1.1, by rw [List.append_assoc]; exact s⟩
    refine hs.ok H0 e1 _ σ H1 _ _ r2 c1 fun ds e2 vs H2 c2 hl2 r3 => k (xs ++ ds) e2 (ws ++ vs) H2 c2 (by simp [hl, hl2]) ⟨r3.1, ?_⟩
    have s3 := r3.2
    rw [List.append_assoc, List.append_assoc] at s3
    rw [ens_append hl, List.append_assoc, List.append_assoc]
    exact s3.perm (pm3 _ _ _)
  cases d with
  | lst o xs =>
    obtain ⟨q, ws, e, hp, hl, s⟩ := r1.2.readL
    exact go xs q ws rfl (Option.some.inj e) (.inr (SqL.of hp)) hl s.drop1
  | tup xs =>
    obtain ⟨q, ws, e, hp, hl, s⟩ := r1.2.readT
    exact go xs q ws rfl (Option.some.inj e) (.inl hp) hl s
  | _ => exact (show False from c1).elim
end

/-! ### a < b < c: the middle one must be frozen -/
def vchain (w w' : W2) (ta tb tc : TV) : TV := fun env C => ta env fun a e1 => tb e1 fun b e2 => isFz b = true ∧ w a b fun r => match r with
  | .bl true => tc e2 fun c e3 => w' b c fun d => C d e3
  | .bl false => C (.bl false) e2
  | _ => False
section
variable {X : Cx} {a b c : Expr} {te tf tg : TE} {ta tb tc : TV} {pos : Pos}
theorem ve_chain {op op' : CmpOp} {r r' : R2} {w w' : W2} (ho : OpR X (compareOp op) r) (hw : Ok2 X.K r w) (ho' : OpR X (compareOp op') r') (hw' : Ok2 X.K r' w') (ha : VE X a te ta) (hb : VE X b tf tb) (hc : VE X c tg tc)
    (hm : lastMarks [op, op'] [b, c] = false := by with_unfolding_all rfl) : VE X (.Compare a [op, op'] [b, c] pos) (tChain r r' te tf tg) (vchain w w' ta tb tc) := by
  refine ⟨pe_chain ho ho' ha.pe hb.pe hc.pe hm, fun H0 env fr σ H C Q r0 h k => ?_⟩
  refine ha.ok H0 env fr σ H _ _ r0 h fun d1 e1 v1 H1 c1 r1 => ?_
  refine hb.ok H0 e1 _ σ H1 _ _ r1 c1 fun d2 e2 v2 H2 c2 r2 => ?_
  have s2 : Sep X.K H0 H2 ((d2, some v2) :: (d2, some v2) :: ((d1, some v1) :: (fr ++ e2.zip σ))) := Sep.dup r2.2 c2.1
  have s3 : Sep X.K H0 H2 ((d2, some v2) :: (d1, some v1) :: ((d2, some v2) :: (fr ++ e2.zip σ))) := s2.perm (List.Perm.cons _ (.swap _ _ _))
  refine hw H0 H2 d1 d2 v1 v2 _ _ _ s3 c2.2 fun d3 v3 H3 c3 s4 => ?_
  cases d3 with
  | bl t =>
    obtain rfl := Option.some.inj s4.is_bl
    cases t with
    | false => exact ⟨false, rfl, k _ e2 (.bl false) H3 c3 ⟨r2.1, s4.drop1.drop1.scal rfl⟩⟩
    | true =>
      refine ⟨true, rfl, ?_⟩
      show tg σ H3 fun w' H4 => r' v2 w' H4 Q
      refine hc.ok H0 e2 ((d2, some v2) :: fr) σ H3 _ _ ⟨r2.1, s4.drop1⟩ c3 fun d4 e4 v4 H4 c4 r4 => ?_
      exact hw' H0 H4 d2 d4 v2 v4 _ _ _ r4.2 c4 fun d5 v5 H5 c5 s5 => k d5 e4 v5 H5 c5 ⟨r4.1, s5⟩
  | _ => exact (show False from c3).elim
end

/-! ### zip, enumerate -/
def zipD (xs ys : List D) : List D := List.zipWith (fun a b => .tup [a, b]) xs ys
def viZip (t : TVA) : TVI := fun env C => t env fun ds e1 => match ds with
  | [.lst _ xs, .lst _ ys] => C (zipD xs ys) e1
  | [.tup xs, .tup ys] => C (zipD xs ys) e1
  | _ => False
def enumD : Nat → List D → List D
  | _, [] => []
  | i, d :: ds => .tup [.int (i : Int), d] :: enumD (i + 1) ds
def viEnum (t : TVA) : TVI := fun env C => t env fun ds e1 => match ds with
  | [.lst _ xs] => C (enumD 0 xs) e1
  | _ => False
section
variable {K : PySem.W.Frag} {H0 : Hp}
theorem zipD_get {xs ys : List D} {j : Nat} {d : D} (h : (zipD xs ys)[j]? = some d) : ∃ a b, xs[j]? = some a ∧ ys[j]? = some b ∧ d = .tup [a, b] := by
  unfold zipD at h
  rw [List.getElem?_zipWith] at h
  cases e1 : xs[j]? with
  | none => rw [e1] at h; simp at h
  | some a =>
    cases e2 : ys[j]? with
    | none => rw [e1, e2] at h; simp at h
    | some b =>
      rw [e1, e2] at h
      exact ⟨a, b, rfl, rfl, by simpa using h.symm⟩
theorem zipD_length (xs ys : List D) : (zipD xs ys).length = min xs.length ys.length := by simp [zipD]
theorem enumD_get : ∀ {xs : List D} {i j : Nat} {d : D}, (enumD i xs)[j]? = some d → ∃ a, xs[j]? = some a ∧ d = .tup [.int ((i + j : Nat) : Int), a]
  | [], _, _, _, h => by simp [enumD] at h
  | x :: xs, i, 0, d, h => by
    have h : D.tup [.int (i : Int), x] = d := by simpa [enumD] using h
    exact ⟨x, rfl, by simpa using h.symm⟩
  | x :: xs, i, j + 1, d, h => by
    obtain ⟨a, h1, h2⟩ := enumD_get (xs := xs) (i := i + 1) (j := j) (by simpa [enumD] using h)
    exact ⟨a, by simpa using h1, by rw [h2, show i + 1 + j = i + (j + 1) by omega]⟩
theorem enumD_length : ∀ (xs : List D) (i : Nat), (enumD i xs).length = xs.length
  | [], _ => rfl
  | _ :: xs, i => by simp [enumD, enumD_length xs (i + 1)]
theorem walk_zip {a b : Addr} {xs ys : List D} {us ws : List V} (hx : xs.length = us.length) (hy : ys.length = ws.length) :
    Walk K (Itz K a b) (zipD xs ys) (fun j => (.nod (.lst us), some (.ref a)) :: (.nod (.lst ws), some (.ref b)) :: (ens (xs.drop j) (us.drop j) ++ ens (ys.drop j) (ws.drop j))) H0 := by
  refine ⟨fun j d H es e s => ?_, fun H es s => ?_⟩
  · obtain ⟨da, db, e1, e2, rfl⟩ := zipD_get e
    obtain ⟨p, q1, hp⟩ := Sep.nodAt s
    obtain rfl := V.ref.inj (Option.some.inj q1)
    obtain ⟨q, q2, hq⟩ := Sep.nodAt (Sep.drop1 s)
    obtain rfl := V.ref.inj (Option.some.inj q2)
    obtain ⟨u, eu, xu⟩ := ens_drop hx e1
    obtain ⟨w, ew, yw⟩ := ens_drop hy e2
    refine ⟨⟨us, ws, u, w, SqL.of hp, SqL.of hq, eu, ew⟩, fun x H' y => ?_⟩
    obtain ⟨T, x1, y1, rfl, hT, rfl, f1, f2⟩ := y
    have ex : u = x1 := Option.some.inj (eu.symm.trans (f1 us (SqL.of hp)))
    have ey : w = y1 := Option.some.inj (ew.symm.trans (f2 ws (SqL.of hq)))
    subst ex; subst ey
    rw [xu, yw] at s
    have s1 : Sep K H0 H (ens [da, db] [u, w] ++ ((.nod (.lst us), some (.ref a)) :: (.nod (.lst ws), some (.ref b)) :: ((ens (xs.drop (j + 1)) (us.drop (j + 1)) ++ ens (ys.drop (j + 1)) (ws.drop (j + 1))) ++ es))) := by
      refine s.perm ?_
      show ((D.nod (.lst us), some (V.ref a)) :: (D.nod (.lst ws), some (V.ref b)) :: (((da, some u) :: ens (xs.drop (j + 1)) (us.drop (j + 1)) ++ ((db, some w) :: ens (ys.drop (j + 1)) (ws.drop (j + 1)))) ++ es)).Perm ((da, some u) :: (db, some w) :: _)
      have h1 : (((da, some u) :: ens (xs.drop (j + 1)) (us.drop (j + 1)) ++ ((db, some w) :: ens (ys.drop (j + 1)) (ws.drop (j + 1)))) ++ es).Perm ((da, some u) :: (db, some w) :: ((ens (xs.drop (j + 1)) (us.drop (j + 1)) ++ ens (ys.drop (j + 1)) (ws.drop (j + 1))) ++ es)) := by
        rw [List.cons_append, List.cons_append]
        refine List.Perm.cons _ ?_
        rw [List.append_assoc, List.append_assoc, List.cons_append]
        exact List.perm_middle
      refine (List.Perm.cons _ (List.Perm.cons _ h1)).trans ?_
      refine (List.Perm.cons _ (.swap _ _ _)).trans ((List.Perm.swap _ _ _).trans (List.Perm.cons _ ?_))
      exact (List.Perm.cons _ (.swap _ _ _)).trans (.swap _ _ _)
    exact s1.newT rfl hT
  · obtain ⟨p, q1, hp⟩ := Sep.nodAt s
    obtain rfl := V.ref.inj (Option.some.inj q1)
    obtain ⟨q, q2, hq⟩ := Sep.nodAt (Sep.drop1 s)
    obtain rfl := V.ref.inj (Option.some.inj q2)
    refine ⟨us, ws, SqL.of hp, SqL.of hq, ?_⟩
    rw [zipD_length, ← hx, ← hy]
    omega
theorem walk_zipT {a b : Addr} {xs ys : List D} {us ws : List V} (hx : xs.length = us.length) (hy : ys.length = ws.length) :
    Walk K (ItzT K a b) (zipD xs ys) (fun j => (.ndt us, some (.ref a)) :: (.ndt ws, some (.ref b)) :: (ens (xs.drop j) (us.drop j) ++ ens (ys.drop j) (ws.drop j))) H0 := by
  refine ⟨fun j d H es e s => ?_, fun H es s => ?_⟩
  · obtain ⟨da, db, e1, e2, rfl⟩ := zipD_get e
    obtain ⟨p, q1, hp⟩ := Sep.ndtAt s
    obtain rfl := V.ref.inj (Option.some.inj q1)
    obtain ⟨q, q2, hq⟩ := Sep.ndtAt (Sep.drop1 s)
    obtain rfl := V.ref.inj (Option.some.inj q2)
    obtain ⟨u, eu, xu⟩ := ens_drop hx e1
    obtain ⟨w, ew, yw⟩ := ens_drop hy e2
    refine ⟨⟨us, ws, u, w, hp, hq, eu, ew⟩, fun x H' y => ?_⟩
    obtain ⟨T, x1, y1, rfl, hT, rfl, f1, f2⟩ := y
    have ex : u = x1 := Option.some.inj (eu.symm.trans (f1 us hp))
    have ey : w = y1 := Option.some.inj (ew.symm.trans (f2 ws hq))
    subst ex; subst ey
    rw [xu, yw] at s
    have s1 : Sep K H0 H (ens [da, db] [u, w] ++ ((.ndt us, some (.ref a)) :: (.ndt ws, some (.ref b)) :: ((ens (xs.drop (j + 1)) (us.drop (j + 1)) ++ ens (ys.drop (j + 1)) (ws.drop (j + 1))) ++ es))) := by
      refine s.perm ?_
      show ((D.ndt us, some (V.ref a)) :: (D.ndt ws, some (V.ref b)) :: (((da, some u) :: ens (xs.drop (j + 1)) (us.drop (j + 1)) ++ ((db, some w) :: ens (ys.drop (j + 1)) (ws.drop (j + 1)))) ++ es)).Perm ((da, some u) :: (db, some w) :: _)
      have h1 : (((da, some u) :: ens (xs.drop (j + 1)) (us.drop (j + 1)) ++ ((db, some w) :: ens (ys.drop (j + 1)) (ws.drop (j + 1)))) ++ es).Perm ((da, some u) :: (db, some w) :: ((ens (xs.drop (j + 1)) (us.drop (j + 1)) ++ ens (ys.drop (j + 1)) (ws.drop (j + 1))) ++ es)) := by
        rw [List.cons_append, List.cons_append]
        refine List.Perm.cons _ ?_
        rw [List.append_assoc, List.append_assoc, List.cons_append]
        exact List.perm_middle
      refine (List.Perm.cons _ (List.Perm.cons _ h1)).trans ?_
      refine (List.Perm.cons _ (.swap _ _ _)).trans ((List.Perm.swap _ _ _).trans (List.Perm.cons _ ?_))
      exact (List.Perm.cons _ (.swap _ _ _)).trans (.swap _ _ _)
    exact s1.newT rfl hT
  · obtain ⟨p, q1, hp⟩ := Sep.ndtAt s
    obtain rfl := V.ref.inj (Option.some.inj q1)
    obtain ⟨q, q2, hq⟩ := Sep.ndtAt (Sep.drop1 s)
    obtain rfl := V.ref.inj (Option.some.inj q2)
    refine ⟨us, ws, hp, hq, ?_⟩
    rw [zipD_length, ← hx, ← hy]
    omega
theorem walk_enum {a : Addr} {xs : List D} {us : List V} (hx : xs.length = us.length) :
    Walk K (Ite K a) (enumD 0 xs) (fun j => (.nod (.lst us), some (.ref a)) :: ens (xs.drop j) (us.drop j)) H0 := by
  refine ⟨fun j d H es e s => ?_, fun H es s => ?_⟩
  · obtain ⟨da, e1, rfl⟩ := enumD_get e
    obtain ⟨p, q1, hp⟩ := Sep.nodAt s
    obtain rfl := V.ref.inj (Option.some.inj q1)
    obtain ⟨u, eu, xu⟩ := ens_drop hx e1
    refine ⟨⟨us, u, SqL.of hp, eu⟩, fun x H' y => ?_⟩
    obtain ⟨T, x1, rfl, hT, rfl, f1⟩ := y
    have ex : u = x1 := Option.some.inj (eu.symm.trans (f1 us (SqL.of hp)))
    subst ex
    rw [xu] at s
    have s1 : Sep K H0 H (ens [.int ((0 + j : Nat) : Int), da] [.int (j : Nat), u] ++ ((.nod (.lst us), some (.ref a)) :: (ens (xs.drop (j + 1)) (us.drop (j + 1)) ++ es))) := by
      have s2 : Sep K H0 H ((da, some u) :: ((.nod (.lst us), some (.ref a)) :: (ens (xs.drop (j + 1)) (us.drop (j + 1)) ++ es))) := s.perm (.swap _ _ _)
      refine s2.scal ?_
      rw [Nat.zero_add]; rfl
    exact s1.newT rfl hT
  · obtain ⟨p, q1, hp⟩ := Sep.nodAt s
    obtain rfl := V.ref.inj (Option.some.inj q1)
    refine ⟨us, SqL.of hp, ?_⟩
    rw [enumD_length, hx]
    exact Nat.le_refl _
end
section
variable {X : Cx} {e e2 : Expr} {ta : TA} {tv : TVA} {p pos tpos : Pos} {elts : List Expr} {kk : Nat}
theorem vi_zip (hg : Gl X "zip") (hm : X.mg "zip" = none) (ha : VA X [e, e2] ta tv)
    (hs : starEach [e, e2] X.env = (false, eval e X.env) :: starEach [e2] X.env := by rfl) (hpl : (backTo pos (starEach [e2] X.env)).any (·.1) = false := by rfl) :
    VI X (.Tuple elts kk tpos) (.Call (.Name "zip" p) [e, e2] [] pos) (iZipA X.K ta) (viZip tv) := by
  refine ⟨pi_zipA hg hm ha.pe hs hpl, fun H0 env fr σ H C R r h k => ha.ok H0 env fr σ H _ _ r h fun ds e1 vs H1 c hl r1 => ?_⟩
  match ds, vs, hl, c, r1 with
  | [.lst o1 xs, .lst o2 ys], [v, w], _, c, r1 =>
    have s0 : Sep X.K H0 H1 ((.lst o1 xs, some v) :: ((.lst o2 ys, some w) :: (fr ++ e1.zip σ))) := r1.2
    obtain ⟨a, us, ea, ha', hx, s1⟩ := s0.readL
    obtain rfl := Option.some.inj ea
    have s2 : Sep X.K H0 H1 ((.lst o2 ys, some w) :: ((.nod (.lst us), some (.ref a)) :: (ens xs us ++ (fr ++ e1.zip σ)))) := s1.perm (by
      refine (List.Perm.cons _ (List.perm_middle)).trans ?_
      exact .swap _ _ _)
    obtain ⟨b, ws, eb, hb', hy, s3⟩ := s2.readL
    obtain rfl := Option.some.inj eb
    refine ⟨a, b, us, ws, rfl, .inl ⟨SqL.of ha', SqL.of hb', k _ e1 _ H1 _ c (walk_zip hx hy) ⟨r1.1, s3.perm ?_⟩⟩⟩
    show ((D.nod (.lst ws), some (V.ref b)) :: (ens ys ws ++ ((D.nod (.lst us), some (V.ref a)) :: (ens xs us ++ (fr ++ e1.zip σ))))).Perm (((D.nod (.lst us), some (V.ref a)) :: (D.nod (.lst ws), some (V.ref b)) :: (ens xs us ++ ens ys ws)) ++ fr ++ e1.zip σ)
    simp only [List.cons_append, List.append_assoc]
    refine (List.Perm.cons _ List.perm_middle).trans ((List.Perm.swap _ _ _).trans (List.Perm.cons _ (List.Perm.cons _ ?_)))
    exact pm3 _ _ _
  | [.tup xs, .tup ys], [v, w], _, c, r1 =>
    have s0 : Sep X.K H0 H1 ((.tup xs, some v) :: ((.tup ys, some w) :: (fr ++ e1.zip σ))) := r1.2
    obtain ⟨a, us, ea, ha', hx, s1⟩ := s0.readTn
    obtain rfl := Option.some.inj ea
    have s2 : Sep X.K H0 H1 ((.tup ys, some w) :: ((.ndt us, some (.ref a)) :: (ens xs us ++ (fr ++ e1.zip σ)))) := s1.perm (by
      refine (List.Perm.cons _ (List.perm_middle)).trans ?_
      exact .swap _ _ _)
    obtain ⟨b, ws, eb, hb', hy, s3⟩ := s2.readTn
    obtain rfl := Option.some.inj eb
    refine ⟨a, b, us, ws, rfl, .inr ⟨ha', hb', k _ e1 _ H1 _ c (walk_zipT hx hy) ⟨r1.1, s3.perm ?_⟩⟩⟩
    show ((D.ndt ws, some (V.ref b)) :: (ens ys ws ++ ((D.ndt us, some (V.ref a)) :: (ens xs us ++ (fr ++ e1.zip σ))))).Perm (((D.ndt us, some (V.ref a)) :: (D.ndt ws, some (V.ref b)) :: (ens xs us ++ ens ys ws)) ++ fr ++ e1.zip σ)
    simp only [List.cons_append, List.append_assoc]
    refine (List.Perm.cons _ List.perm_middle).trans ((List.Perm.swap _ _ _).trans (List.Perm.cons _ (List.Perm.cons _ ?_)))
    exact pm3 _ _ _
theorem vi_enum (hg : Gl X "enumerate") (hm : X.mg "enumerate" = none) (ha : VA X [e] ta tv) (hs : starEach [e] X.env = [(false, eval e X.env)] := by rfl) :
    VI X (.Tuple elts kk tpos) (.Call (.Name "enumerate" p) [e] [] pos) (iEnum X.K ta) (viEnum tv) := by
  refine ⟨pi_enum hg hm ha.pe hs, fun H0 env fr σ H C R r h k => ha.ok H0 env fr σ H _ _ r h fun ds e1 vs H1 c hl r1 => ?_⟩
  match ds, vs, hl, c, r1 with
  | [.lst o1 xs], [v], _, c, r1 =>
    have s0 : Sep X.K H0 H1 ((.lst o1 xs, some v) :: (fr ++ e1.zip σ)) := r1.2
    obtain ⟨a, us, ea, ha', hx, s1⟩ := s0.readL
    obtain rfl := Option.some.inj ea
    refine ⟨a, us, rfl, SqL.of ha', k _ e1 _ H1 _ c (walk_enum hx) ⟨r1.1, ?_⟩⟩
    simpa [List.append_assoc] using s1
end

/-! ### repr of a list or a tuple -/
def rRepr (K : PySem.W.Frag) : List V → Hp → VK → Prop := fun xs H Q => ∃ (p : Addr) (d : PyData), xs = [.ref p] ∧ Dp K H (.ref p) d ∧ d.showable = true ∧ d.hasDict = false ∧ d.depth ≤ 60 ∧ d.shown.length ≤ 16777216 ∧ Q (.str d.shown) H
section
variable {X : Cx}
theorem call_repr (hd : X.A.guards = some []) (hu : X.A.units + 64 < cLine) : CallR X (.builtin "repr") (rRepr X.K) := by
  intro pins s σ H xs us Q I r h
  obtain ⟨p, d, rfl, hp, h1, h2, h3, h4, q⟩ := h
  obtain ⟨u, rfl, ru⟩ := Vals.one r
  obtain ⟨as, rd⟩ := Dp.reads I d _ _ hp ru
  cases ru
  refine repr_of_reads' rd h1 (PyData.noDict_hsm h2) hd (by omega) (fun _ _ e => e) (fun h' u tk hk => ?_) (by rw [sizeLine_eq]; exact h4)
  exact ⟨.str d.shown, H, I.kept hk, ⟨_, rfl⟩, q⟩
end
/-- what repr wants of a value -/
def fRepr : D → (D → Prop) → Prop := fun d C => (itemsD d).isSome = true ∧ shp d 60 = true ∧ (pyD d).showable = true ∧ (pyD d).shown.length ≤ 16777216 ∧ C (.str (pyD d).shown)
mutual
theorem shp_noDict : ∀ (d : D) (n : Nat), shp d n = true → (pyD d).hasDict = false
  | .non, _, _ => by simp [pyD, PyData.hasDict]
  | .bl b, _, _ => by simp [pyD, PyData.hasDict]
  | .int i, _, _ => by simp [pyD, PyData.hasDict]
  | .str x, _, h => by simp [pyD, PyData.hasDict]
  | .lst o xs, n + 1, hs => by simpa [pyD, PyData.hasDict] using shpL_noDict xs n hs
  | .tup xs, n + 1, hs => by simpa [pyD, PyData.hasDict] using shpL_noDict xs n hs
  | .lst _ _, 0, hs => by cases hs
  | .tup _, 0, hs => by cases hs
  | .dic _ _ _, _, hs => by simp [pyD, PyData.hasDict]
  | .hnd _, _, hs => by simp [pyD, PyData.hasDict]
  | .nod _, _, hs => by simp [pyD, PyData.hasDict]
  | .ndt _, _, hs => by simp [pyD, PyData.hasDict]
  | .scr _, _, hs => by simp [pyD, PyData.hasDict]
  | .junk, _, hs => by simp [pyD, PyData.hasDict]
theorem shpL_noDict : ∀ (ds : List D) (n : Nat), shpL ds n = true → PyData.hasDictAll (pyL ds) = false
  | [], _, _ => by simp [pyL, PyData.hasDictAll]
  | d :: ds, n, hs => by
    have hs' : shp d n = true ∧ shpL ds n = true := by simpa [shpL] using hs
    simp [pyL, PyData.hasDictAll, shp_noDict d n hs'.1, shpL_noDict ds n hs'.2]
end
theorem ok_repr {K : PySem.W.Frag} : OkN K (rRepr K) (w1 fRepr) := okN1 fun H0 H d v es C Q s hw k => by
  obtain ⟨h0, h1, h2, h3, c⟩ := hw
  have dp := s.dp h1
  have fin : Sep K H0 H ((.str (pyD d).shown, some (.str (pyD d).shown)) :: es) := s.drop1.scal rfl
  have dep := (shp_can d 60 h1).2
  cases d with
  | lst o xs =>
    obtain ⟨p, ws, e, hp, hl, _⟩ := s.readL
    obtain rfl := Option.some.inj e
    exact ⟨p, _, rfl, dp, h2, shp_noDict _ 60 h1, dep, h3, k _ _ H c fin⟩
  | tup xs =>
    obtain ⟨p, ws, e, hp, hl, _⟩ := s.readT
    obtain rfl := Option.some.inj e
    exact ⟨p, _, rfl, dp, h2, shp_noDict _ 60 h1, dep, h3, k _ _ H c fin⟩
  | _ => cases h0
end VL
/-! short words for printed terms -/
namespace VL
open PySem PySem.Spec PyProof.Rows L2 StX RZ

/-- the built-ins' names are the built-ins' -/
structure Blt (mg : Str → Option Value) : Prop where
  len : mg "len" = none
  range : mg "range" = none
  isinstance : mg "isinstance" = none
  int : mg "int" = none
  str : mg "str" = none
  bool : mg "bool" = none
  list : mg "list" = none
  tuple : mg "tuple" = none
  dict : mg "dict" = none
  set : mg "set" = none
  max : mg "max" = none
  min : mg "min" = none
  sum : mg "sum" = none
  all : mg "all" = none
  any : mg "any" = none
  abs : mg "abs" = none
  sorted : mg "sorted" = none
  repr : mg "repr" = none
  zip : mg "zip" = none
  enumerate : mg "enumerate" = none
  reversed : mg "reversed" = none
theorem bt_len : bootBuiltins "len" = some (.builtin "len") := by decide +kernel
theorem bt_max : bootBuiltins "max" = some (.builtin "max") := by decide +kernel
theorem bt_min : bootBuiltins "min" = some (.builtin "min") := by decide +kernel
theorem bt_sum : bootBuiltins "sum" = some (.builtin "sum") := by decide +kernel
theorem bt_all : bootBuiltins "all" = some (.builtin "all") := by decide +kernel
theorem bt_any : bootBuiltins "any" = some (.builtin "any") := by decide +kernel
theorem bt_abs : bootBuiltins "abs" = some (.builtin "abs") := by decide +kernel
theorem bt_sorted : bootBuiltins "sorted" = some (.builtin "sorted") := by decide +kernel
theorem bt_repr : bootBuiltins "repr" = some (.builtin "repr") := by decide +kernel
theorem bt_int : bootBuiltins "int" = some (.type "int") := by decide +kernel
theorem bt_str : bootBuiltins "str" = some (.type "str") := by decide +kernel
theorem bt_bool : bootBuiltins "bool" = some (.type "bool") := by decide +kernel
theorem bt_list : bootBuiltins "list" = some (.type "list") := by decide +kernel
theorem bt_tuple : bootBuiltins "tuple" = some (.type "tuple") := by decide +kernel
theorem bt_dict : bootBuiltins "dict" = some (.type "dict") := by decide +kernel

section
variable {X : Cx} {FX : List Nat} {x : Str} {e : Expr} {te : TE} {tv : TV} {pos p : Pos}
theorem nm (i : Nat) (hN : X.N[i]? = some x := by rfl) (hv : Vis X.env.scope x := by first | exact Or.inl rfl | exact Or.inr (Or.inl rfl) | exact Or.inr (Or.inr rfl)) (hd : (x == ("__debug__" : Str)) = false := by decide)
    (hcd : (x == ("__classdict__" : Str)) = false := by decide) : VE X (.Name x pos) (tVar i) (vname i) := ve_name i (pe_var hN hv hd hcd)
theorem mv (i : Nat) (hN : X.N[i]? = some x := by rfl) (hv : Vis X.env.scope x := by first | exact Or.inl rfl | exact Or.inr (Or.inl rfl) | exact Or.inr (Or.inr rfl)) (hd : (x == ("__debug__" : Str)) = false := by decide)
    (hcd : (x == ("__classdict__" : Str)) = false := by decide) : VE X (.Name x pos) (tVar i) (vmove i) := ve_move i (pe_var hN hv hd hcd)
/-- a target's name -/
theorem tg (i : Nat) (hN : X.N.Nodup) (hi : X.N[i]? = some x := by rfl) (hx : Loc X.env.scope x := by first | exact Or.inl rfl | exact Or.inr rfl) (hf : X.fn x = true ∨ X.env.scope.names.lookup x = some .local := by first | exact .inl rfl | exact .inr rfl) :
    VG X (.Name x pos) (gName i) [i] (gvName i) := vg_name i (pg_name hN hi hx hf)
/-- x = e -/
theorem sset (i : Nat) (hN : X.N.Nodup) (he : VE X e te tv) (hd : ∀ j ∈ FX, j ∉ [i] := by decide) (hi : X.N[i]? = some x := by rfl) (hx : Loc X.env.scope x := by first | exact Or.inl rfl | exact Or.inr rfl) (hs : swapsWith e (some (.Name x p)) pos.line X.env = pure false := by rfl)
    (hf : X.fn x = true ∨ X.env.scope.names.lookup x = some .local := by first | exact .inl rfl | exact .inr rfl) : VS X FX (.Assign [.Name x p] e pos) (tvAsg tv (gvName i)) :=
  vs_set he hd (fun t h => ps_set hN hi hx h hs hf) (pg_name hN hi hx hf)
/-- x, y = (e, e') -/
theorem spar {i j : Nat} {y : Str} {a b : Expr} {ta : TA} {tva : TVA} {px py pt : Pos} {kt k2 pt2} (hc : X.calm = true) (hN : X.N.Nodup) (ha : VA X [a, b] ta tva) (hi : X.N[i]? = some x) (hj : X.N[j]? = some y) (hij : i ≠ j)
    (hx : X.env.scope.names.lookup x = some .local) (hy : X.env.scope.names.lookup y = some .local) (hd : ∀ k ∈ FX, k ∉ [i, j])
    (hw : swappedStores [.Tuple [.Name x px, .Name y py] kt pt] (.Tuple [a, b] k2 pt2) X.env = pure (some [x, y]))
    (hs : swapsWithSole [.Tuple [.Name x px, .Name y py] kt pt] (.Tuple [a, b] k2 pt2) pos.line X.env = pure false := by rfl) : VS X FX (.Assign [.Tuple [.Name x px, .Name y py] kt pt] (.Tuple [a, b] k2 pt2) pos) (tvPar i j tva) :=
  vs_par ha hd fun t h => ps_par hc hN hi hj hij hx hy h hw hs
theorem spop (i : Nat) {apos cpos : Pos} (hN : X.N[i]? = some x := by rfl) (hv : Vis X.env.scope x := by first | exact Or.inl rfl | exact Or.inr (Or.inl rfl) | exact Or.inr (Or.inr rfl))
    (hp : ∀ t, PE X (.Name x p) t → PE X (.Call (.Attribute (.Name x p) "pop" apos) [] [] cpos) (tBM0 X.K "list" rPop t) := by exact fun t h => pe_bm0 PySem.F.plainAttrs_list PySem.F.slot_list_pop PySem.F.type_list_pop mt_pop h)
    (hd : (x == ("__debug__" : Str)) = false := by decide) (hcd : (x == ("__classdict__" : Str)) = false := by decide) :
    VE X (.Call (.Attribute (.Name x p) "pop" apos) [] [] cpos) (tBM0 X.K "list" rPop (tVar i)) (vpop i) := ve_pop i (pe_var hN hv hd hcd) hp
end

/-! ### bit_length -/
def vbits (t : TV) : TV := fun env C => t env fun d e1 => match d with
  | .int i => C (.int ((Builtin.Int.intBits i : Nat) : Int)) e1
  | _ => False
section
variable {X : Cx} {o : Expr} {te : TE} {tv : TV} {apos pos : Pos}
theorem ve_bits (ho : VE X o te tv) (hbase : attributeBase o "bit_length" X.env (eval o X.env) = eval o X.env := by rfl) (hline : (apos.endLine == pos.line) = true := by rfl) : VE X (.Call (.Attribute o "bit_length" apos) [] [] pos) (tBits te) (vbits tv) := by
  refine ⟨pe_bits ho.pe hbase hline, fun H0 env fr σ H C Q r h k => ho.ok H0 env fr σ H _ _ r h fun d e1 v H1 c1 r1 => ?_⟩
  cases d with
  | int i =>
    obtain rfl := Option.some.inj r1.2.is_int
    exact ⟨i, rfl, k _ e1 _ H1 c1 ⟨r1.1, r1.2.drop1.scal rfl⟩⟩
  | _ => exact (show False from c1).elim
end

/-! ### isinstance(x, (S, T, ..)) -/
def tTys : List String → TA
  | [] => tNil
  | T :: r => tCons (tC (.ty T)) (tTys r)
theorem tTys_read : ∀ {Ts : List String} {σ : L2.St} {H : Hp} {Q : List V → Hp → Prop}, Q (Ts.map V.ty) H → tTys Ts σ H Q
  | [], _, _, _, q => q
  | T :: r, σ, H, Q, q => tTys_read (Ts := r) (Q := fun xs H2 => Q (V.ty T :: xs) H2) q
def visiT (Ts : List String) (t : TV) : TV := fun env C => t env fun d e1 => tested d = true ∧ C (.bl (Ts.any fun T => isTy T d)) e1
theorem kit_any {K : PySem.W.Frag} {d : D} (r : tested d = true) : ∀ {Ts : List String}, (∀ T ∈ Ts, T ∈ kinds6) → PySem.W.kitAny K (.type (tyName d)) (Ts.map Value.type) = some (Ts.any fun T => isTy T d)
  | [], _ => kitAny_nil
  | T :: Ts, h => by
    have h1 := kit_ty (K := K) (kit6 T d (h T List.mem_cons_self) r)
    have ih := kit_any (K := K) r (Ts := Ts) fun S hS => h S (List.mem_cons_of_mem _ hS)
    refine kitAny_cons h1 (fun e => ?_) (fun e => ?_)
    · rw [List.any_cons, e]; exact ih
    · rw [List.any_cons, e]; rfl
theorem clsV_tys : ∀ Ts : List String, Paired ClsV (Ts.map V.ty) (Ts.map Value.type)
  | [] => .nil
  | T :: Ts => .cons (.ty T) (clsV_tys Ts)
section
variable {X : Cx} {p pos tp : Pos} {e : Expr} {te : TE} {tv : TV} {Ts : List String} {es : List Expr} {k : Nat}
theorem ve_isiT (hm : X.mg "isinstance" = none) (hg : Gl X "isinstance") (he : VE X e te tv) (hT : PA X es (tTys Ts)) (h6 : ∀ T ∈ Ts, T ∈ kinds6 := by decide) (hlen : Ts.length ≤ 6 := by decide)
    (h1 : starEach [e, .Tuple es k tp] X.env = (false, eval e X.env) :: starEach [.Tuple es k tp] X.env := by rfl) (h2 : starEach [.Tuple es k tp] X.env = [(false, eval (.Tuple es k tp) X.env)] := by rfl) (hpl : (backTo pos (starEach [.Tuple es k tp] X.env)).any (·.1) = false := by rfl) :
    VE X (.Call (.Name "isinstance" p) [e, .Tuple es k tp] [] pos) (tCB (rIsiT X.K) (tCons te (tCons (tTup (tTys Ts)) tNil))) (visiT Ts tv) := by
  refine ⟨pe_callB call_isiT hg hm (by decide +kernel) (pa_cons he.pe (pa_cons (pe_tup hT) pa_nil h2) h1) (by decide) (by decide) h1 hpl, fun H0 env fr σ H C Q r hc k => he.ok H0 env fr σ H _ _ r hc fun d e1 v H1 c1 r1 => ?_⟩
  show tTys Ts σ H1 _
  refine tTys_read ⟨by rw [List.length_map, sizeLine_eq]; omega, fun q hq => ?_⟩
  refine ⟨v, q, Ts.map V.ty, .type (tyName d), Ts.map Value.type, Ts.any fun T => isTy T d, rfl, upd_same, clsV_tys Ts, ?_, kit_any c1.1 h6, ?_⟩
  · exact (r1.2.mono (same_new (o := .tup (Ts.map V.ty)) hq)).tyX c1.1
  · exact k _ e1 _ _ c1.2 ⟨r1.1, (r1.2.drop1.mono (same_new hq)).scal rfl⟩
end

/-! ### defs by name -/
/-- the def x of the text, as the top left it -/
structure DefAt (K : PySem.W.Frag) (mg : Str → Option Value) (x : Str) (st : Stmt) (dvs : List V) (f : Addr) (fd : FuncData) : Prop where
  fn : FunD K x x (defArgs st) (defBody st) (defScope st) dvs [] f fd
  at' : mg x = some (.ref f)
/-- x may be called so: sp its promise -/
structure CallOk (P : Program) (w : World) (K : PySem.W.Frag) (mg : Str → Option Value) (base : Heap) (x : Str) (k : Nat) (ps : List Str) (sp : SpV) : Prop where
  ex : ∃ (f : Addr) (fd : FuncData), FnV P w K mg base k f fd ps sp ∧ mg x = some (.ref f) ∧ PySem.W.keepIn K (.ref f) = true ∧ Binds K fd ps []
/-- x may be called with keywords alone, named ks -/
structure CallKw (P : Program) (w : World) (K : PySem.W.Frag) (mg : Str → Option Value) (base : Heap) (x : Str) (k : Nat) (ps ks : List Str) (at' : List Nat) (sp : SpV) : Prop where
  ex : ∃ (f : Addr) (fd : FuncData), FnV P w K mg base k f fd ps sp ∧ mg x = some (.ref f) ∧ PySem.W.keepIn K (.ref f) = true ∧ KwB K fd ps ks at'
/-- x may be called with its last parameters left to their defaults dds -/
structure CallDf (P : Program) (w : World) (K : PySem.W.Frag) (mg : Str → Option Value) (base : Heap) (x : Str) (k : Nat) (ps : List Str) (dds : List D) (dvs : List V) (sp : SpV) : Prop where
  ex : ∃ (f : Addr) (fd : FuncData) (dss : List Value), FnV P w K mg base k f fd ps sp ∧ mg x = some (.ref f) ∧ PySem.W.keepIn K (.ref f) = true ∧ Binds K fd ps dss ∧ Vals dvs dss ∧ Scals dds dvs
section
variable {P : Program} {w : World} {K : PySem.W.Frag} {mg : Str → Option Value} {base : Heap}
theorem CallOk.up {x : Str} {j k : Nat} {ps : List Str} {sp : SpV} (c : CallOk P w K mg base x j ps sp) (h : j ≤ k) : CallOk P w K mg base x k ps sp := by
  obtain ⟨f, fd, F, r⟩ := c.ex
  exact ⟨f, fd, F.up h, r⟩
theorem CallOk.imp {x : Str} {k : Nat} {ps : List Str} {sp sp' : SpV} (c : CallOk P w K mg base x k ps sp) (h : ∀ ds C, sp' ds C → sp ds C) : CallOk P w K mg base x k ps sp' := by
  obtain ⟨f, fd, F, r⟩ := c.ex
  exact ⟨f, fd, F.imp h, r⟩
theorem DefAt.call {x : Str} {st : Stmt} {f : Addr} {fd : FuncData} {k : Nat} {ps : List Str} {sp : SpV} (d : DefAt K mg x st [] f fd) (F : FnV P w K mg base k f fd ps sp)
    (h : ∀ (kV doc pm : Value) (an : Option Addr) (cdv ct : Value) (us : List Value), us.length = ps.length → bindArgs (PySem.W.fnOf x x (defArgs st) (defBody st) (defScope st) .none kV doc pm an cdv ct) ⟨us, []⟩ = pure (ps.zip us)) : CallOk P w K mg base x k ps sp :=
  ⟨f, fd, F, d.at', d.fn.kp, d.fn.bindsN h⟩
theorem DefAt.callD {x : Str} {st : Stmt} {dvs : List V} {f : Addr} {fd : FuncData} {k : Nat} {ps : List Str} {sp : SpV} (d : DefAt K mg x st dvs f fd) (F : FnV P w K mg base k f fd ps sp) (hd : dvs ≠ [])
    (h : ∀ (T : Addr) (kV doc pm : Value) (an : Option Addr) (cdv ct : Value) (us its : List Value), us.length = ps.length → its.length = dvs.length →
      ∃ k, bindArgs (PySem.W.fnOf x x (defArgs st) (defBody st) (defScope st) (.ref T) kV doc pm an cdv ct) ⟨us, []⟩ = seqItems? (.ref T) >>= k ∧ k (some its.toArray) = pure (ps.zip (us ++ its.drop dvs.length))) : CallOk P w K mg base x k ps sp := by
  obtain ⟨ds, h1, h2⟩ := d.fn.binds1 ps.length dvs.length hd (by omega) h
  rw [List.drop_length] at h1
  cases h1
  exact ⟨f, fd, F, d.at', d.fn.kp, h2⟩
theorem DefAt.callDf {x : Str} {st : Stmt} {dvs : List V} {dds : List D} {f : Addr} {fd : FuncData} {k : Nat} {ps : List Str} {sp : SpV} (d : DefAt K mg x st dvs f fd) (F : FnV P w K mg base k f fd ps sp) (n : Nat) (hd : dvs ≠ []) (hs : Scals dds dvs) (hn : n + dvs.length = ps.length)
    (h : ∀ (T : Addr) (kV doc pm : Value) (an : Option Addr) (cdv ct : Value) (us its : List Value), us.length = n → its.length = dvs.length →
      ∃ k, bindArgs (PySem.W.fnOf x x (defArgs st) (defBody st) (defScope st) (.ref T) kV doc pm an cdv ct) ⟨us, []⟩ = seqItems? (.ref T) >>= k ∧ k (some its.toArray) = pure (ps.zip (us ++ its.drop 0))) : CallDf P w K mg base x k ps dds dvs sp := by
  obtain ⟨ds, h1, h2⟩ := d.fn.binds1 n 0 hd (by omega) h
  exact ⟨f, fd, ds, F, d.at', d.fn.kp, h2, by simpa using h1, hs⟩
theorem DefAt.callKw {x : Str} {st : Stmt} {f : Addr} {fd : FuncData} {k : Nat} {ps ks : List Str} {at' : List Nat} {sp : SpV} (d : DefAt K mg x st [] f fd) (F : FnV P w K mg base k f fd ps sp) (hp : at'.Perm (List.range ks.length)) (hl : ps.length = ks.length)
    (h : ∀ (kV doc pm : Value) (an : Option Addr) (cdv ct : Value) (ws : List Value), ws.length = ks.length → bindArgs (PySem.W.fnOf x x (defArgs st) (defBody st) (defScope st) .none kV doc pm an cdv ct) ⟨[], ks.zip ws⟩ = pure (ps.zip (pick at' ws))) : CallKw P w K mg base x k ps ks at' sp := by
  refine ⟨f, fd, F, d.at', d.fn.kp, ⟨fun s ws hk hw => ?_, hp, hl⟩⟩
  obtain ⟨oc, od, dV, kV, doc, pm, an, cdv, ct, osl, rfl, lk, hcd, hD, hK⟩ := d.fn.ex
  rcases hD with ⟨_, rfl⟩ | ⟨e, _⟩
  · exact .of_eq (h kV doc pm an cdv ct ws hw)
  · exact absurd rfl e
end
section
variable {X : Cx} {x : Str} {e : Expr} {es : List Expr} {ms : List (Option Nat)} {ta : TA} {u : TVA} {pos p : Pos} {k : Nat} {ps ks : List Str} {sp : SpV} {dds : List D} {kws : List Keyword} {tk : TA} {at' : List Nat}
theorem call (c : CallOk X.prog X.w X.K X.mg X.base x k ps sp) (hr : RG k X.A) (ha : VM X (e :: es) ms ta u) (hg : Gl X x := by rfl) (hn : ms.length + ([] : List V).length = ps.length := by rfl) (hdb : (x == ("__debug__" : Str)) = false := by decide)
    (he : starEach (e :: es) X.env = (false, eval e X.env) :: starEach es X.env := by rfl) (hpl : (backTo pos (starEach es X.env)).any (·.1) = false := by rfl) :
    VE X (.Call (.Name x p) (e :: es) [] pos) (tCall (toSp X.K ps.length sp) [] E0 ta) (vfn sp ms [] u) := by
  obtain ⟨f, fd, F, hm, hk, hb⟩ := c.ex
  exact ve_fn F hr hg hm hk hb .nil trivial ha hn hdb he hpl
theorem callKw (c : CallKw X.prog X.w X.K X.mg X.base x k ps ks at' sp) (hr : RG k X.A) (ha : VKw X kws tk u) (hg : Gl X x := by rfl) (hall : (backToKw pos (keywordEach kws X.env)).all (·.1.isSome) = true := by rfl) (hks : (backToKw pos (keywordEach kws X.env)).filterMap (·.1) = ks := by rfl)
    (hdb : (x == ("__debug__" : Str)) = false := by decide)
    (hpl : ((backTo pos (starEach [] X.env)).any (·.1) || (backToKw pos (keywordEach kws X.env)).any (·.1.isNone)) = false := by rfl) :
    VE X (.Call (.Name x p) [] kws pos) (tCallK0 (toSp X.K ps.length sp) ps.length at' tk) (vfnk sp ps.length at' u) := by
  obtain ⟨f, fd, F, hm, hk, hb⟩ := c.ex
  exact ve_fnk F hr hg hm hk hb ha hall hks hdb hpl
theorem callDf {dvs : List V} (c : CallDf X.prog X.w X.K X.mg X.base x k ps dds dvs sp) (hr : RG k X.A) (ha : VM X (e :: es) ms ta u) (hg : Gl X x := by rfl) (hn : ms.length + dvs.length = ps.length := by rfl) (hdb : (x == ("__debug__" : Str)) = false := by decide)
    (he : starEach (e :: es) X.env = (false, eval e X.env) :: starEach es X.env := by rfl) (hpl : (backTo pos (starEach es X.env)).any (·.1) = false := by rfl) :
    VE X (.Call (.Name x p) (e :: es) [] pos) (tCall (toSp X.K ps.length sp) dvs E0 ta) (vfn sp ms dds u) := by
  obtain ⟨f, fd, dss, F, hm, hk, hb, hv, hs⟩ := c.ex
  exact ve_fn F hr hg hm hk hb hv hs ha hn hdb he hpl
end
end VL
/-! what a for walks, of any kind; chains as tests -/
namespace VL
open PySem PySem.Spec PyProof.Rows L2 StX RZ

def viAny (t : TV) : TVI := fun env C => t env fun d e1 => match d with
  | .lst _ xs => C xs e1
  | .tup xs => C xs e1
  | .scr ns => C (ns.map D.int) e1
  | _ => False
def iAny (K : PySem.W.Frag) (te : TE) : TI := fun σ H R => te σ H fun x H1 => ∃ a, x = .ref a ∧ (((∃ xs, SqL K H1 a xs) ∧ R (Itl K a) H1) ∨ ((∃ xs, SqT K H1 a xs) ∧ R (Itt K a) H1))
section
variable {X : Cx} {tg iter : Expr} {te : TE} {tv : TV}
theorem walk_scr {K : PySem.W.Frag} {H0 : Hp} {p : Addr} {ns : List Int} : Walk K (Itl K p) (ns.map D.int) (fun j => [(.scr ns, some (.ref p))]) H0 := by
  refine ⟨fun j d H es e s => ?_, fun H es s => ?_⟩
  · obtain ⟨q, e3, hq⟩ := Sep.scrAt s
    obtain rfl := V.ref.inj e3
    rw [List.getElem?_map] at e
    cases en : ns[j]? with
    | none => rw [en] at e; cases e
    | some n =>
      rw [en] at e
      obtain rfl := Option.some.inj e
      have e1 : (ns.map V.int)[j]? = some (.int n) := by rw [List.getElem?_map, en]; rfl
      refine ⟨⟨_, _, hq, e1⟩, fun x H' y => ?_⟩
      obtain ⟨rfl, y⟩ := y
      have ex : V.int n = x := Option.some.inj (e1.symm.trans (y _ hq))
      subst ex
      exact Sep.scal s rfl
  · obtain ⟨q, e3, hq⟩ := Sep.scrAt s
    obtain rfl := V.ref.inj e3
    exact ⟨_, hq, by simp⟩
theorem pi_any (he : PE X iter te) : PI X tg iter (iAny X.K te) := by
  refine ⟨fun pins s σ H R I h => thn (he.run pins s σ H _ I h) fun v s1 ⟨x, H1, I1, rel, a, ex, q⟩ => ?_⟩
  subst ex
  obtain rfl : v = Value.ref a := rel
  have fresh : ∀ b ∈ [s1.heap.objs.size], FpOk X pins H1 b := fun b hb => by
    obtain rfl : b = s1.heap.objs.size := by simpa using hb
    exact I1.fpOk (Nat.le_refl _) (I1.hok.fresh (Nat.le_refl _))
  rcases q with ⟨⟨xs, hx⟩, q⟩ | ⟨⟨xs, hx⟩, q⟩
  · obtain ⟨its, _, at_a, _⟩ := I1.list hx
    exact wpAny_pyIter_list at_a.isList ⟨s1.heap.objs.size, [s1.heap.objs.size], _, _, H1, rfl, I1.kept (t' := s1.toks) fun b o e => Heap.get?_push_of_some _ e, turn_list a _, ⟨_, Heap.get?_push_size _ rfl, rfl, rfl⟩, fresh, q⟩
  · obtain ⟨its, _, at_a, _⟩ := I1.tuple hx
    exact wpAny_pyIter_tuple (show s1.heap.IsTuple a its.toArray from at_a) ⟨s1.heap.objs.size, [s1.heap.objs.size], _, _, H1, rfl, I1.kept (t' := s1.toks) fun b o e => Heap.get?_push_of_some _ e, turn_tuple a _, ⟨_, Heap.get?_push_size _ rfl, rfl, rfl⟩, fresh, q⟩
theorem vi_any (h : VE X iter te tv) : VI X tg iter (iAny X.K te) (viAny tv) := by
  refine ⟨pi_any h.pe, fun H0 env fr σ H C R r ht k => h.ok H0 env fr σ H _ _ r ht fun d e1 v H1 c1 r1 => ?_⟩
  cases d with
  | lst o xs =>
    obtain ⟨p, ws, e, hp, hl, s⟩ := r1.2.readL
    obtain rfl := Option.some.inj e
    refine ⟨p, rfl, .inl ⟨⟨ws, SqL.of hp⟩, k xs e1 _ H1 _ c1 (walk_list hl) ⟨r1.1, ?_⟩⟩⟩
    simpa [List.append_assoc] using s
  | tup xs =>
    obtain ⟨p, ws, e, hp, hl, s⟩ := r1.2.readTn
    obtain rfl := Option.some.inj e
    refine ⟨p, rfl, .inr ⟨⟨ws, hp⟩, k xs e1 _ H1 _ c1 (walk_tup hl) ⟨r1.1, ?_⟩⟩⟩
    simpa [List.append_assoc] using s
  | scr ns =>
    obtain ⟨p, rfl, hp⟩ := Sep.scrAt r1.2
    exact ⟨p, rfl, .inl ⟨⟨_, hp⟩, k _ e1 _ H1 _ c1 walk_scr r1⟩⟩
  | _ => exact (show False from c1).elim
end
/-! a chain as a test -/
section
variable {X : Cx} {a b c : Expr} {te tf tg : TE} {ta tb tc : TV} {pos : Pos}
theorem vt_chain {op op' : CmpOp} {r r' : R2} {w w' : W2} (ho : OpR X (compareOp op) r) (hw : Ok2 X.K r w) (ho' : OpR X (compareOp op') r') (hw' : Ok2 X.K r' w') (ha : VE X a te ta) (hb : VE X b tf tb) (hc : VE X c tg tc)
    (hm : lastMarks [op, op'] [b, c] = false := by with_unfolding_all rfl) : VT X (.Compare a [op, op'] [b, c] pos) (tTest (tChain r r' te tf tg)) (wBool isBl (vchain w w' ta tb tc)) := by
  refine ⟨pt_chain ho ho' ha.pe hb.pe hc.pe hm, fun H0 env fr σ H C Q r0 h k => (ve_chain (pos := pos) ho hw ho' hw' ha hb hc hm).ok H0 env fr σ H _ _ r0 h fun d e1 v H1 c1 r1 => ?_⟩
  cases d with
  | bl b =>
    obtain rfl := Option.some.inj r1.2.is_bl
    exact ⟨b, rfl, k b e1 H1 c1 ⟨r1.1, r1.2.drop1⟩⟩
  | _ => exact (show False from c1).elim
end
end VL
/-! a for over an owned list, its items lent out; comprehensions that map -/
namespace VL
open PySem PySem.Spec PyProof.Rows L2 StX RZ

structure OpenP (i : Nat) (xs : List D) (back : D) (g : TGV) (tb : TSV) (DE : EndV) (env : List D) : Prop where
  ex : ∃ Iv : Nat → List D → Prop, Iv 0 (env.set i .junk) ∧
  (∀ (j : Nat) (d : D) (e : List D), xs[j]? = some d → Iv j e → g d e fun e2 => tb { DE with nx := Iv (j + 1), ct := Iv (j + 1), bk := fun _ => False } e2) ∧ ∀ e, Iv xs.length e → DE.nx (e.set i back)
def tvForOpen (i : Nat) (g : TGV) (tb : TSV) : TSV := fun DE env => match env[i]? with
  | some (.lst true xs) => OpenP i xs (.lst true (List.replicate xs.length .junk)) g tb DE env
  | some (.tup xs) => OpenP i xs (.tup (List.replicate xs.length .junk)) g tb DE env
  | _ => False
theorem walk_hnd {K : PySem.W.Frag} {H0 : Hp} {p : Addr} {xs : List D} {ws : List V} (hl : xs.length = ws.length) : Walk K (Itl K p) xs (fun j => (.hnd (.lst ws), some (.ref p)) :: ens (xs.drop j) (ws.drop j)) H0 := by
  refine ⟨fun j d H es e s => ?_, fun H es s => ?_⟩
  · obtain ⟨v, e1, e2⟩ := ens_drop hl e
    obtain ⟨q, e3, hq⟩ := Sep.hndAt s
    obtain rfl := V.ref.inj (Option.some.inj e3)
    refine ⟨⟨ws, v, SqL.of hq, e1⟩, fun x H' y => ?_⟩
    obtain ⟨rfl, y⟩ := y
    have ex : v = x := Option.some.inj (e1.symm.trans (y ws (SqL.of hq)))
    subst ex
    rw [e2] at s
    exact s.perm (.swap _ _ _)
  · obtain ⟨q, e3, hq⟩ := Sep.hndAt s
    obtain rfl := V.ref.inj (Option.some.inj e3)
    exact ⟨ws, SqL.of hq, by omega⟩
theorem Sep.junkL {K : PySem.W.Frag} {H0 H : Hp} : ∀ {ws : List V} {b : List En}, Sep K H0 H b → Sep K H0 H (ens (List.replicate ws.length D.junk) ws ++ b)
  | [], _, s => s
  | w :: ws, b, s => (Sep.junkL (ws := ws) s).addJunk
theorem iAny_run {K : PySem.W.Frag} {i : Nat} {σ : L2.St} {H : Hp} {p : Addr} {R : It → Hp → Prop} (hσ : σ[i]? = some (some (.ref p))) (h : ((∃ xs, SqL K H p xs) ∧ R (Itl K p) H) ∨ ((∃ xs, SqT K H p xs) ∧ R (Itt K p) H)) : iAny K (tVar i) σ H R := ⟨.ref p, hσ, p, rfl, h⟩
section
variable {X : Cx} {FX : List Nat} {tg iter : Expr} {body : List Stmt} {pos : Pos} {t : TSV} {x : Str} {px : Pos}
theorem loop_open {K : PySem.W.Frag} {J : It} {G : Nat → List En} {xs : List D} {p : Addr} {back : D} {i : Nat} {gt : TG} {g : TGV} {ts : List Nat} {tb : TS} (b2 : GOk K gt ts g) (c2 : ∀ (H0 : Hp) (env : List D) (fr : List En) (σ σ0 : L2.St) (H : Hp) (D : EndV) (E : Ends), Fx FX σ0 σ → Rep K H0 H env σ fr → t D env → EndOk K FX σ0 H0 fr D E → tb E σ H)
    (hd : ∀ i ∈ FX, i ∉ ts) (hi : i ∈ FX) {H0 : Hp} {env : List D} {fr : List En} {σ σ0 : L2.St} {H : Hp} {DE : EndV} {E : Ends} (f : Fx FX σ0 σ) (hσ : σ[i]? = some (some (.ref p)))
    (w : Walk K J xs G H0) (r1 : Rep K H0 H (env.set i .junk) σ (G 0 ++ fr)) (c : OpenP i xs back g t DE env) (k : EndOk K FX σ0 H0 fr DE E)
    (hb : ∀ (H1 : Hp) (es : List En), Sep K H0 H1 (G xs.length ++ es) → Sep K H0 H1 ((back, some (.ref p)) :: es)) :
    ∃ W : Nat → Nat → L2.St → Hp → Prop, (∃ m, W 0 m σ H) ∧ ∀ i m σ H, W i m σ H →
  (J.stop i H ∧ E.nx σ H) ∨ (J.go i H ∧ ∃ N : L2.St → Hp → Prop, (∀ σ' H', N σ' H' → ∃ m', m' < m ∧ W (i + 1) m' σ' H') ∧ ∀ x H', J.yld i H x H' → gt x σ H' fun σ2 H2 => tb { E with nx := N, ct := N, bk := E.nx } σ2 H2) := by
  obtain ⟨Iv, i0, istep, iend⟩ := c.ex
  refine ⟨fun i m σ H => m = xs.length - i ∧ i ≤ xs.length ∧ ∃ env, Iv i env ∧ Fx FX σ0 σ ∧ Rep K H0 H env σ (G i ++ fr), ⟨xs.length, by simp, Nat.zero_le _, _, i0, f, r1⟩, ?_⟩
  rintro j m σ1 H1 ⟨rfl, hj, env1, iv, f1, r2⟩
  have s2 := r2.2
  rw [List.append_assoc] at s2
  by_cases hlt : j < xs.length
  · obtain ⟨d, ed⟩ : ∃ d, xs[j]? = some d := ⟨_, List.getElem?_eq_getElem hlt⟩
    obtain ⟨go, yl⟩ := w.step j d H1 _ ed s2
    refine .inr ⟨go, fun σ H => ∃ env, Iv (j + 1) env ∧ Fx FX σ0 σ ∧ Rep K H0 H env σ (G (j + 1) ++ fr), fun σ' H' q => ⟨xs.length - (j + 1), by omega, rfl, hlt, q⟩, fun x H2 y => ?_⟩
    have s3 := yl x H2 y
    have r3 : Rep K H0 H2 env1 σ1 ((d, some x) :: (G (j + 1) ++ fr)) := ⟨r2.1, by rw [List.cons_append, List.append_assoc]; exact s3⟩
    refine b2 H0 env1 _ σ1 H2 d x _ _ r3 (istep j d env1 ed iv) fun e2 σ2 H3 c2' ag r4 => ?_
    refine c2 H0 e2 _ σ2 σ0 H3 _ _ (f1.trans_agree ag hd) r4 c2' ⟨fun e σ H q f r => ⟨e, q, f, r⟩, fun d e v σ H q f r => k.rt d e v σ H q f ⟨r.1, ?_⟩, fun e σ H q f r => q.elim, fun e σ H q f r => ⟨e, q, f, r⟩⟩
    have s := r.2
    have s' : Sep K H0 H (((d, some v) :: G (j + 1)) ++ (fr ++ e.zip σ)) := by
      rw [List.cons_append, ← List.append_assoc]; exact s
    have s4 : Sep K H0 H (G (j + 1) ++ ((d, some v) :: (fr ++ e.zip σ))) := s'.perm (by
      rw [List.cons_append]
      exact List.perm_middle.symm)
    exact s4.dropL
  · have e : j = xs.length := by omega
    subst e
    have e1 : σ1[i]? = some (some (.ref p)) := (f1 i hi).trans ((f i hi).symm.trans hσ)
    have hlen : i < env1.length := by
      have q := (List.getElem?_eq_some_iff.mp e1).1
      rw [r2.1]; exact q
    obtain ⟨d, ed⟩ : ∃ d, env1[i]? = some d := ⟨_, List.getElem?_eq_getElem hlen⟩
    obtain ⟨ov, rest, g1, g2, _, g4⟩ := r2.focus ed
    rw [e1] at g1
    obtain rfl := Option.some.inj g1
    have s3 := g2.drop1
    rw [List.append_assoc] at s3
    exact .inl ⟨w.stop H1 _ s2, k.nx _ σ1 H1 (iend env1 iv) f1 (g4 H0 H1 back fr (hb H1 _ s3))⟩
/-- for y in x: x keeps its place, its items are lent out one by one -/
theorem vs_forOpen {gt : TG} {g : TGV} {ts : List Nat} (i : Nat) (hx : PE X (.Name x px) (tVar i)) (hp : PassesOwn (model X.prog X.w) X.A X.env X.xe) (hc : X.calm = true) (hg : VG X tg gt ts g) (hb : VSs X FX body t) (hd : ∀ i ∈ FX, i ∉ ts := by decide) (hi : i ∈ FX := by decide)
    (hs : ∀ z, foldedSetIterable (.Name x px) X.env z = pure z := by intro _; rfl) : VS X FX (.For tg (.Name x px) body [] pos) (tvForOpen i g t) := by
  obtain ⟨b1, b2⟩ := hg
  obtain ⟨tb, c1, c2⟩ := hb.ex
  refine ⟨_, ps_for hp hc (pi_any hx) b1 c1 hs, fun H0 env fr σ σ0 H DE E f r h k => ?_⟩
  have h : match env[i]? with
    | some (.lst true xs) => OpenP i xs (.lst true (List.replicate xs.length .junk)) g t DE env
    | some (.tup xs) => OpenP i xs (.tup (List.replicate xs.length .junk)) g t DE env
    | _ => False := h
  split at h
  · rename_i xs e0
    obtain ⟨ov, rest, h1, h2, _, h3⟩ := r.focus e0
    obtain ⟨p, ws, rfl, hpw, hl, s⟩ := h2.openL
    refine iAny_run h1 (.inl ⟨⟨ws, SqL.of hpw⟩, ?_⟩)
    refine loop_open (i := i) b2 c2 hd hi f h1 (walk_hnd hl) (h3 H0 H .junk _ ?_) h k fun H1 es s => ?_
    · refine Sep.addJunk ?_
      rw [List.drop_zero, List.drop_zero]
      simpa [List.append_assoc] using s
    · rw [List.drop_length, hl, List.drop_length] at s
      have s1 : Sep X.K H0 H1 ((.hnd (.lst ws), some (.ref p)) :: es) := s
      have s2 : Sep X.K H0 H1 ((.hnd (.lst ws), some (.ref p)) :: (ens (List.replicate ws.length D.junk) ws ++ es)) := by
        have q := Sep.junkL (ws := ws) s1
        exact q.perm List.perm_middle
      rw [hl]
      exact s2.closeL (by simp)
  · rename_i xs e0
    obtain ⟨ov, rest, h1, h2, _, h3⟩ := r.focus e0
    obtain ⟨p, ws, rfl, hpw, hl, s⟩ := h2.readTn
    refine iAny_run h1 (.inr ⟨⟨ws, hpw⟩, ?_⟩)
    refine loop_open (i := i) b2 c2 hd hi f h1 (walk_tup hl) (h3 H0 H .junk _ ?_) h k fun H1 es s => ?_
    · refine Sep.addJunk ?_
      rw [List.drop_zero, List.drop_zero]
      simpa [List.append_assoc] using s
    · rw [List.drop_length, hl, List.drop_length] at s
      have s1 : Sep X.K H0 H1 ((.ndt ws, some (.ref p)) :: es) := s
      obtain ⟨q, e3, hq⟩ := Sep.ndtAt s1
      obtain rfl := V.ref.inj (Option.some.inj e3)
      rw [hl]
      exact (Sep.junkL (ws := ws) s1.drop1).closeT (by simp) hq
  · exact h.elim
end

/-! ### comprehensions -/
/-- a comprehension that filters and maps, and changes nothing -/
theorem LcP.map {items e1 : List D} {g : TGV} {tt : TVT} {te : TV} {vs : List Nat} {C : D → List D → Prop} (p : D → Bool) (f : D → D) (hn : items.length ≤ 16777216)
    (h : ∀ d ∈ items, ∀ (J : List D → List D → Prop) (acc : List D), acc.length < 16777216 → (p d = true → J (acc ++ [f d]) (wipeD e1 vs)) → (p d = false → J acc (wipeD e1 vs)) →
      g d (wipeD e1 vs) fun e2 => tt e2 fun b e3 => if b = true then te e3 fun y e4 => acc.length < 16777216 ∧ J (acc ++ [y]) (wipeD e4 vs) else J acc (wipeD e3 vs))
    (k : C (.lst true ((items.filter p).map f)) (backD vs e1 (wipeD e1 vs))) : LcP items e1 g tt te vs C := by
  refine LcP.mk ⟨fun j acc e => acc = ((items.take j).filter p).map f ∧ e = wipeD e1 vs, ⟨by simp, rfl⟩, fun j d acc e ed ⟨ea, ee⟩ => ?_, fun acc e ⟨ea, ee⟩ => ?_⟩
  · subst ee
    have hj : j < items.length := (List.getElem?_eq_some_iff.mp ed).1
    have et : items.take (j + 1) = items.take j ++ [d] := by rw [List.take_succ, ed]; rfl
    refine h d (List.mem_of_getElem? ed) (fun acc e => acc = ((items.take (j + 1)).filter p).map f ∧ e = wipeD e1 vs) acc ?_ (fun hp => ⟨?_, rfl⟩) (fun hp => ⟨?_, rfl⟩)
    · rw [ea]
      have h1 : (((items.take j).filter p).map f).length ≤ (items.take j).length := by rw [List.length_map]; exact List.length_filter_le _ _
      rw [List.length_take] at h1
      omega
    · rw [et, List.filter_append, List.map_append, ea]
      simp [hp]
    · rw [et, List.filter_append, List.map_append, ea]
      simp [hp]
  · subst ee
    rw [List.take_length] at ea
    subst ea
    exact k
theorem LcP.map1 {items e1 : List D} {g : TGV} {te : TV} {vs : List Nat} {C : D → List D → Prop} (f : D → D) (hn : items.length ≤ 16777216)
    (h : ∀ d ∈ items, ∀ (J : List D → List D → Prop) (acc : List D), acc.length < 16777216 → J (acc ++ [f d]) (wipeD e1 vs) →
      g d (wipeD e1 vs) fun e2 => te e2 fun y e4 => acc.length < 16777216 ∧ J (acc ++ [y]) (wipeD e4 vs))
    (k : C (.lst true (items.map f)) (backD vs e1 (wipeD e1 vs))) : LcP items e1 g vtYes te vs C := by
  refine LcP.map (fun _ => true) f hn (fun d hd J acc ha h1 h2 => ?_) ?_
  · have q := h d hd J acc ha (h1 rfl)
    simpa only [vtYes, if_true] using q
  · rw [List.filter_eq_self.mpr (fun _ _ => rfl)]
    exact k
end VL
/-! xs[::-1], list(range(..)), str(int) -/
namespace VL
open PySem PySem.Spec PyProof.Rows L2 StX RZ

def vrev (t : TV) : TV := fun env C => t env fun d e1 => match d with
  | .lst _ xs => C (.lst true xs.reverse) e1
  | _ => False
theorem Sep.revL {K : PySem.W.Frag} {H0 H : Hp} {xs : List D} {ws : List V} {es : List En} (hl : xs.length = ws.length) (s : Sep K H0 H (ens xs ws ++ es)) : Sep K H0 H (ens xs.reverse ws.reverse ++ es) := by
  refine s.perm (List.Perm.append_right _ ?_)
  have e : ens xs.reverse ws.reverse = (ens xs ws).reverse := by
    induction xs generalizing ws with
    | nil => cases ws <;> first | rfl | cases hl
    | cons x xs ih =>
      cases ws with
      | nil => cases hl
      | cons w ws =>
        have hl' : xs.length = ws.length := by simpa using hl
        rw [List.reverse_cons, List.reverse_cons, ens_append (by simp [hl'])]
        rw [ih hl' (Sep.drop1 s)]
        show _ = (((x, some w) :: ens xs ws)).reverse
        rw [List.reverse_cons]
        rfl
  rw [e]
  exact (List.reverse_perm _).symm
section
variable {X : Cx} {e : Expr} {te : TE} {tv : TV} {k k2 : Nat} {p1 p2 p3 p4 pos : Pos}
theorem rev_ok (h : EOk X.K te tv) : EOk X.K (tRevL X.K te) (vrev tv) := fun H0 env fr σ H C Q r hc kk => h H0 env fr σ H _ _ r hc fun d e1 v H1 c1 r1 => by
  cases d with
  | lst o xs =>
    obtain ⟨p, ws, e, hp, hl, s⟩ := r1.2.readL
    obtain rfl := Option.some.inj e
    refine ⟨p, ws, rfl, SqL.of hp, fun q hq => kk _ e1 (.ref q) _ c1 ⟨r1.1, ?_⟩⟩
    exact Sep.newL (s.drop1.revL hl) (by simp [hl]) hq
  | _ => exact (show False from c1).elim
theorem ve_rev (h : VE X e te tv) : VE X (.Subscript e (.Slice none none (some (.UnaryOp .USub (.Constant (.int 1) k p1) p2)) p3) pos) (tRevL X.K te) (vrev tv) := ⟨pe_revL h.pe, rev_ok h.ok⟩
theorem pe_revB (he : PE X e te) : PE X (.Subscript e (.Slice none none (some (.BinOp (.Constant (.int 0) k p1) .Sub (.Constant (.int 1) k2 p2) p4)) p3) pos) (tRevL X.K te) := by
  refine ⟨fun pins s σ H Q I h => ?_⟩
  refine Subscript_ (thn (he.run pins s σ H _ I h) fun v s1 ⟨x, H1, I1, r1, q1⟩ => ?_)
  obtain ⟨a, xs, ex, hx, q⟩ := q1
  subst ex
  cases r1
  have hst : PO X (some (.BinOp (.Constant (.int 0) k p1) .Sub (.Constant (.int 1) k2 p2) p4)) (tPart (tOp (rI0 fun i j => .int (i - j)) (tC (.int 0)) (tC (.int 1)))) := po_some (pe_op op_sub pe_int pe_int)
  refine wpAny_Slice (thn (po_none.run pins s1 σ H1 (fun o H2 => o = none ∧ H2 = H1) I1 ⟨rfl, rfl⟩) fun vl s2 ⟨l, H2, I2, pl, el, e2⟩ => ?_)
  subst el e2
  refine thn (po_none.run pins s2 σ H2 (fun o H3 => o = none ∧ H3 = H2) I2 ⟨rfl, rfl⟩) fun vu s3 ⟨u, H3, I3, pu, eu, e3⟩ => ?_
  subst eu e3
  refine thn (hst.run pins s3 σ H3 (fun o H4 => o = some (-1) ∧ H4 = H3) I3 ⟨0, 1, rfl, rfl, -1, rfl, rfl, rfl⟩) fun vs s4 ⟨o, H4, I4, ps, eo, e4⟩ => ?_
  subst eo e4
  have I5 : Inv X pins σ H4 { s4 with heap := s4.heap.push { cls := .type "slice", data := .fields #[vl, vu, vs] } } := I4.kept (t' := s4.toks) fun b ob q => Heap.get?_push_of_some _ q
  obtain ⟨its, r, ht, hz⟩ := I5.list hx
  have hlen := r.length
  show wpAny (model X.prog X.w) X.A (subscriptTail e (.Slice none none (some (.BinOp (.Constant (.int 0) k p1) .Sub (.Constant (.int 1) k2 p2) p4)) p3) (.ref a) (.ref s4.heap.objs.size)) (EP X pins σ Q) X.xe { s4 with heap := s4.heap.push { cls := .type "slice", data := .fields #[vl, vu, vs] } }
  refine tail_any (ops := [.ref a, .ref s4.heap.objs.size]) ht.isList.typeIs (PySem.slot_list_getitem.lookup) ?_ (by with_unfolding_all rfl)
  refine wpAny_getItem_list_slice ht.isList (Heap.IsSliceOf.new _ vl vu vs) pl pu ps (by decide) ?_ (by rw [List.size_toArray]; omega)
  rw [PySem.W.krv_pick]
  refine ⟨.ref _, _, I5.laid (t' := s4.toks) (o := .lst xs.reverse) (fun b ob q => Heap.get?_push_of_some _ q) (Nat.le_refl _) ?_, rfl, q _ (I5.hok.fresh (Nat.le_refl _))⟩
  exact ⟨by rw [List.length_reverse]; exact hz, _, 0, r.reverse, Heap.get?_push_size _ rfl⟩
theorem ve_revB (h : VE X e te tv) : VE X (.Subscript e (.Slice none none (some (.BinOp (.Constant (.int 0) k p1) .Sub (.Constant (.int 1) k2 p2) p4)) p3) pos) (tRevL X.K te) (vrev tv) := ⟨pe_revB h.pe, rev_ok h.ok⟩
end

/-! ### list(range(a)), list(range(a, b)) -/
/-- the ints a .. b - 1 as a list -/
def vlr1 (t : TV) : TV := fun env C => t env fun d e1 => match d with
  | .int j => RgOk 0 j ∧ C (.lst true (rngD 0 (j - 0).toNat)) e1
  | _ => False
def vlr2 (t u : TV) : TV := fun env C => t env fun d e1 => u e1 fun d' e2 => match d with
  | .int i => (match d' with
    | .int j => RgOk i j ∧ C (.lst true (rngD i (j - i).toNat)) e2
    | _ => False)
  | _ => False
section
variable {X : Cx} {a b : Expr} {ta tb : TE} {t u : TV} {p p' pos pos' : Pos}
theorem Sep.rg {K : PySem.W.Frag} {H0 H : Hp} {i : Int} {n : Nat} {q : Addr} {es : List En} (s : Sep K H0 H es) (hq : H q = none) : Sep K H0 (upd H q (.lst ((List.range n).map fun (j : Nat) => V.int (i + (j : Nat))))) ((.lst true (rngD i n), some (.ref q)) :: es) := by
  refine Sep.newL ?_ (by simp [rngD]) hq
  have gen : ∀ (l : List Nat), Sep K H0 H (ens (l.map fun (j : Nat) => D.int (i + (j : Int))) (l.map fun (j : Nat) => V.int (i + (j : Nat))) ++ es) := by
    intro l
    induction l with
    | nil => exact s
    | cons x l ih => exact Sep.scal (d := .int (i + (x : Int))) (v := .int (i + (x : Int))) ih rfl
  exact gen _
theorem ve_listRange1 (hc : X.calm = true) (hg : Gl X "list") (hm : X.mg "list" = none) (hm2 : X.mg "range" = none) (ha : VE X a ta t)
    (hg2 : Gl X "range" := by rfl) (na : starEach [a] X.env = (false, eval a X.env) :: starEach [] X.env := by rfl)
    (na2 : starEach [.Call (.Name "range" p') [a] [] pos'] X.env = (false, eval (.Call (.Name "range" p') [a] [] pos') X.env) :: starEach [] X.env := by rfl) :
    VE X (.Call (.Name "list" p) [.Call (.Name "range" p') [a] [] pos'] [] pos) (tLstRg (tRg1 ta)) (vlr1 t) := by
  refine ⟨pe_listRg hc hg hm (prg_1 hg2 hm2 ha.pe na) na2, fun H0 env fr σ H C Q r h k => ha.ok H0 env fr σ H _ _ r h fun d e1 v H1 c1 r1 => ?_⟩
  cases d with
  | int j =>
    obtain rfl := Option.some.inj r1.2.is_int
    refine ⟨j, rfl, c1.1, fun q hq => k _ e1 _ _ c1.2 ⟨r1.1, ?_⟩⟩
    exact Sep.rg (Sep.drop1 r1.2) hq
  | _ => exact (show False from c1).elim
theorem ve_listRange2 (hc : X.calm = true) (hg : Gl X "list") (hm : X.mg "list" = none) (hm2 : X.mg "range" = none) (ha : VE X a ta t) (hb : VE X b tb u)
    (hg2 : Gl X "range" := by rfl) (na : starEach [a, b] X.env = (false, eval a X.env) :: starEach [b] X.env := by rfl) (nb : starEach [b] X.env = (false, eval b X.env) :: starEach [] X.env := by rfl)
    (hpl : (backTo pos' (starEach [b] X.env)).any (·.1) = false := by rfl)
    (na2 : starEach [.Call (.Name "range" p') [a, b] [] pos'] X.env = (false, eval (.Call (.Name "range" p') [a, b] [] pos') X.env) :: starEach [] X.env := by rfl) :
    VE X (.Call (.Name "list" p) [.Call (.Name "range" p') [a, b] [] pos'] [] pos) (tLstRg (tRg2 ta tb)) (vlr2 t u) := by
  refine ⟨pe_listRg hc hg hm (prg_2 hg2 hm2 ha.pe hb.pe na nb hpl) na2, fun H0 env fr σ H C Q r h k => ha.ok H0 env fr σ H _ _ r h fun d e1 v H1 c1 r1 => hb.ok H0 e1 _ σ H1 _ _ r1 c1 fun d' e2 v' H2 c2 r2 => ?_⟩
  cases d with
  | int i =>
    cases d' with
    | int j =>
      have s1 : Sep X.K H0 H2 ((.int j, some v') :: ((.int i, some v) :: (fr ++ e2.zip σ))) := r2.2
      obtain rfl := Option.some.inj s1.is_int
      obtain rfl := Option.some.inj s1.drop1.is_int
      refine ⟨i, j, rfl, rfl, c2.1, fun q hq => k _ e2 _ _ c2.2 ⟨r2.1, ?_⟩⟩
      exact Sep.rg s1.drop1.drop1 hq
    | _ => exact (show False from c2).elim
  | _ => exact (show False from c2).elim
end
/-! ### str(i) -/
def fStr : D → (D → Prop) → Prop := fun d C => match d with
  | .int i => i.natAbs.log2 < 1920 ∧ C (.str (toString i))
  | _ => False
def rStr1 : List V → Hp → VK → Prop := fun xs H Q => ∃ i, xs = [.int i] ∧ i.natAbs.log2 < 1920 ∧ Q (.str (toString i)) H
theorem ok_str {K : PySem.W.Frag} : OkN K rStr1 (w1 fStr) := okN1 fun H0 H d v es C Q s hw k => by
  cases d with
  | int i =>
    obtain rfl := Option.some.inj s.is_int
    exact ⟨i, rfl, hw.1, k _ _ H hw.2 (s.drop1.scal rfl)⟩
  | _ => exact (show False from hw).elim
theorem call_strV {X : Cx} : CallR X (.type "str") rStr1 := call_str_int
end VL
/-! comprehensions whose parts' readings are hidden -/
namespace VL
open PySem PySem.Spec PyProof.Rows L2 StX RZ

section
variable {K : PySem.W.Frag}
def cnE (K : PySem.W.Frag) (t : TV) : TE := fun σ H Q => ∃ (H0 : Hp) (env : List D) (fr : List En) (C : D → List D → Prop), Rep K H0 H env σ fr ∧ t env C ∧ ∀ d env' v H', C d env' → Rep K H0 H' env' σ ((d, some v) :: fr) → Q v H'
def cnB (K : PySem.W.Frag) (t : TVT) : TT := fun σ H Q => ∃ (H0 : Hp) (env : List D) (fr : List En) (C : Bool → List D → Prop), Rep K H0 H env σ fr ∧ t env C ∧ ∀ b env' H', C b env' → Rep K H0 H' env' σ fr → Q b H'
def cnG (K : PySem.W.Frag) (ts : List Nat) (g : TGV) : TG := fun v σ H Q => ∃ (H0 : Hp) (env : List D) (fr : List En) (d : D) (C : List D → Prop), Rep K H0 H env σ ((d, some v) :: fr) ∧ g d env C ∧ ∀ env' σ' H', C env' → AgreeBut ts σ σ' → Rep K H0 H' env' σ' fr → Q σ' H'
theorem cnE_ok {t : TV} : EOk K (cnE K t) t := fun H0 env fr σ H C Q r h k => ⟨H0, env, fr, C, r, h, k⟩
theorem cnB_ok {t : TVT} : BOk K (cnB K t) t := fun H0 env fr σ H C Q r h k => ⟨H0, env, fr, C, r, h, k⟩
theorem cnG_ok {ts : List Nat} {g : TGV} : GOk K (cnG K ts g) ts g := fun H0 env fr σ H d v C Q r h k => ⟨H0, env, fr, d, C, r, h, k⟩
end
section
variable {X : Cx} {e : Expr} {es : List Expr}
theorem VE.cn {te : TE} {t : TV} (h : VE X e te t) : PE X e (cnE X.K t) := ⟨fun pins s σ H Q I ⟨H0, env, fr, C, r, ht, k⟩ => h.pe.run pins s σ H Q I (h.ok H0 env fr σ H C Q r ht k)⟩
theorem VT.cn {tt : TT} {t : TVT} (h : VT X e tt t) : PT X e (cnB X.K t) := ⟨fun pins s σ H Q I ⟨H0, env, fr, C, r, ht, k⟩ => h.pe.run pins s σ H Q I (h.ok H0 env fr σ H C Q r ht k)⟩
theorem VTs.cn {tt : TT} {t : TVT} (h : VTs X es tt t) : PTs X es (cnB X.K t) := ⟨fun pins s σ H Q I ⟨H0, env, fr, C, r, ht, k⟩ => h.pe.run pins s σ H Q I (h.ok H0 env fr σ H C Q r ht k)⟩
theorem VG.cn {gt : TG} {ts : List Nat} {g : TGV} (h : VG X e gt ts g) : PG X e (cnG X.K ts g) := ⟨fun pins s σ H v u Q I rv ⟨H0, env, fr, d, C, r, ht, k⟩ => h.pe.run pins s σ H v u Q I rv (h.ok H0 env fr σ H d v C Q r ht k)⟩
end
section
variable {X : Cx} {FX : List Nat} {tg iter elt : Expr} {ifs : List Expr} {scope : Scope} {own : List (Str × Nat)} {pos : Pos} {wi : TI} {ti : TVI} {g : TGV} {ts : List Nat} {tv : TVT} {te : TV}
theorem ve_lcX (hc : X.calm = true) (hN : X.N.Nodup) (hi : VI X tg iter wi ti) (ok : BlkOk X.N X.env.scope scope own)
    (hg : ∀ (s : Shared) (H : Hp) (C : Addr) (cl : List (Str × Addr)) (fp : List Addr), ∃ gt, VG (X.blk s H scope (compEnvC scope cl C X.env) fp) tg gt ts g)
    (ht : ∀ (s : Shared) (H : Hp) (C : Addr) (cl : List (Str × Addr)) (fp : List Addr), ∃ tt, VTs (X.blk s H scope (compEnvC scope cl C X.env) fp) ifs tt tv)
    (he : ∀ (s : Shared) (H : Hp) (C : Addr) (cl : List (Str × Addr)) (fp : List Addr), ∃ ee, VE (X.blk s H scope (compEnvC scope cl C X.env) fp) elt ee te)
    (nd : (own.map (·.2)).Nodup := by decide) (hts : ∀ i ∈ ts, i ∈ own.map (·.2) := by decide) (hs : ∀ x, foldedSetIterable iter X.env x = pure x := by intro _; rfl) :
    VE X (.ListComp elt [⟨tg, iter, ifs, 0⟩] scope pos) (tLc wi (cnG X.K ts g) (cnB X.K tv) (cnE X.K te) (own.map (·.2))) (vLc ti g tv te (own.map (·.2))) :=
  ⟨pe_lc hc hN hi.pe ok (fun s H C cl fp => (hg s H C cl fp).elim fun _ h => h.cn) (fun s H C cl fp => (ht s H C cl fp).elim fun _ h => h.cn) (fun s H C cl fp => (he s H C cl fp).elim fun _ h => h.cn) hs,
    lc_ok hi.ok cnG_ok cnB_ok cnE_ok nd hts⟩
/-- y = [..] on one line -/
theorem vs_setLcX {i : Nat} {y : Str} {py spos : Pos} (hc : X.calm = true) (hN : X.N.Nodup) (hy : X.N[i]? = some y) (hyl : X.env.scope.names.lookup y = some .local)
    (hsw : swapsWith (.ListComp elt [⟨tg, iter, ifs, 0⟩] scope pos) (some (.Name y py)) spos.line X.env = pure true) (hi : VI X tg iter wi ti) (ok : BlkOk X.N X.env.scope scope own)
    (hg : ∀ (s : Shared) (H : Hp) (C : Addr) (cl : List (Str × Addr)) (fp : List Addr), ∃ gt, VG (X.blk s H scope (compEnvC scope cl C X.env) fp) tg gt ts g)
    (ht : ∀ (s : Shared) (H : Hp) (C : Addr) (cl : List (Str × Addr)) (fp : List Addr), ∃ tt, VTs (X.blk s H scope (compEnvC scope cl C X.env) fp) ifs tt tv)
    (he : ∀ (s : Shared) (H : Hp) (C : Addr) (cl : List (Str × Addr)) (fp : List Addr), ∃ ee, VE (X.blk s H scope (compEnvC scope cl C X.env) fp) elt ee te)
    (hd : ∀ j ∈ FX, j ∉ [i])
    (nd : (own.map (·.2)).Nodup := by decide) (hts : ∀ i ∈ ts, i ∈ own.map (·.2) := by decide) (hs : ∀ x, foldedSetIterable iter X.env x = pure x := by intro _; rfl) :
    VS X FX (.Assign [.Name y py] (.ListComp elt [⟨tg, iter, ifs, 0⟩] scope pos) spos) (tvAsg (vLc ti g tv te (own.map (·.2))) (gvName i)) := by
  have ok1 := lc_ok (K := X.K) hi.ok (cnG_ok (ts := ts) (g := g)) (cnB_ok (t := tv)) (cnE_ok (t := te)) nd hts
  refine ⟨_, ps_setLc hc hN hy hyl hsw hi.pe ok (fun s H C cl fp => (hg s H C cl fp).elim fun _ h => h.cn) (fun s H C cl fp => (ht s H C cl fp).elim fun _ h => h.cn) (fun s H C cl fp => (he s H C cl fp).elim fun _ h => h.cn) hs, fun H0 env fr σ σ0 H DE E f r h k => ok1 H0 env fr σ H _ _ r h fun d e1 v H1 c1 r1 => ?_⟩
  exact k.nx _ _ H1 c1 (f.trans_agree ⟨by simp, fun j hj => by rw [List.getElem?_set_ne (fun z => hj (by simp [z]))]⟩ hd) (r1.store i)
end
/-! ### frozen on the way -/
def vfrz (t : TV) : TV := fun env C => t env fun d e1 => C (frz d) e1
theorem VE.frz {X : Cx} {e : Expr} {te : TE} {t : TV} (h : VE X e te t) : VE X e te (vfrz t) :=
  ⟨h.pe, fun H0 env fr σ H C Q r ht k => h.ok H0 env fr σ H _ _ r ht fun d e1 v H1 c1 r1 => k _ e1 v H1 c1 ⟨r1.1, Sep.freeze r1.2⟩⟩
mutual
theorem fz_of_shp : ∀ (d : D) (n : Nat), shp d n = true → fzA (VL.frz d) = true
  | .non, _, _ => rfl
  | .bl _, _, _ => rfl
  | .int _, _, _ => rfl
  | .str _, _, _ => rfl
  | .lst o xs, n + 1, h => by simp only [VL.frz, fzA, fzL_of_shp xs n h]; rfl
  | .tup xs, n + 1, h => by simp only [VL.frz, fzA]; exact fzL_of_shp xs n h
  | .lst _ _, 0, hs => by cases hs
  | .tup _, 0, hs => by cases hs
  | .dic _ _ _, 0, hs => by cases hs
  | .dic _ _ _, _ + 1, hs => by cases hs
  | .hnd _, 0, hs => by cases hs
  | .hnd _, _ + 1, hs => by cases hs
  | .nod _, 0, hs => by cases hs
  | .nod _, _ + 1, hs => by cases hs
  | .ndt _, 0, hs => by cases hs
  | .ndt _, _ + 1, hs => by cases hs
  | .scr _, 0, hs => by cases hs
  | .scr _, _ + 1, hs => by cases hs
  | .junk, 0, hs => by cases hs
  | .junk, _ + 1, hs => by cases hs
theorem fzL_of_shp : ∀ (ds : List D) (n : Nat), shpL ds n = true → fzAL (VL.frzL ds) = true
  | [], _, _ => rfl
  | d :: ds, n, h => by
    have h' : shp d n = true ∧ shpL ds n = true := by simpa [shpL] using h
    simp only [VL.frzL, fzAL, fz_of_shp d n h'.1, fzL_of_shp ds n h'.2, Bool.and_self]
end
mutual
theorem vw_of_shp : ∀ (d : D) (n : Nat), shp d n = true → isFz (VL.vwD d) = true
  | .non, _, _ => rfl
  | .bl _, _, _ => rfl
  | .int _, _, _ => rfl
  | .str _, _, _ => rfl
  | .lst true xs, _, _ => rfl
  | .lst false xs, _, _ => rfl
  | .tup xs, n + 1, h => by simp only [VL.vwD, isFz]; exact vwL_of_shp xs n h
  | .tup _, 0, hs => by cases hs
  | .dic _ _ _, 0, hs => by cases hs
  | .dic _ _ _, _ + 1, hs => by cases hs
  | .hnd _, 0, hs => by cases hs
  | .hnd _, _ + 1, hs => by cases hs
  | .nod _, 0, hs => by cases hs
  | .nod _, _ + 1, hs => by cases hs
  | .ndt _, 0, hs => by cases hs
  | .ndt _, _ + 1, hs => by cases hs
  | .scr _, 0, hs => by cases hs
  | .scr _, _ + 1, hs => by cases hs
  | .junk, 0, hs => by cases hs
  | .junk, _ + 1, hs => by cases hs
theorem vwL_of_shp : ∀ (ds : List D) (n : Nat), shpL ds n = true → isFzL (VL.vwDL ds) = true
  | [], _, _ => rfl
  | d :: ds, n, h => by
    have h' : shp d n = true ∧ shpL ds n = true := by simpa [shpL] using h
    simp only [VL.vwDL, isFzL, vw_of_shp d n h'.1, vwL_of_shp ds n h'.2, Bool.and_self]
end
theorem real_fzA {d : D} (h : fzA d = true) : real d = true := by
  cases d <;> first | rfl | cases h
theorem vw_junk (n : Nat) : isFz (VL.vwD (.tup (List.replicate n .junk))) = true := by
  simp only [VL.vwD, isFz]
  induction n with
  | zero => rfl
  | succ n ih => rw [List.replicate_succ]; simp only [VL.vwDL, isFzL]; exact ih
theorem real_of_shp {d : D} {n : Nat} (h : shp d n = true) : real d = true := by
  cases d <;> cases n <;> first | rfl | cases h
mutual
theorem shp_frz : ∀ (d : D) (n : Nat), shp d n = true → shp (VL.frz d) n = true
  | .non, _, h => h
  | .bl _, _, h => h
  | .int _, _, h => h
  | .str _, _, h => h
  | .lst o xs, n + 1, h => by simp only [VL.frz, shp]; exact shpL_frz xs n h
  | .tup xs, n + 1, h => by simp only [VL.frz, shp]; exact shpL_frz xs n h
  | .lst _ _, 0, hs => by cases hs
  | .tup _, 0, hs => by cases hs
  | .dic _ _ _, 0, hs => by cases hs
  | .dic _ _ _, _ + 1, hs => by cases hs
  | .hnd _, 0, hs => by cases hs
  | .hnd _, _ + 1, hs => by cases hs
  | .nod _, 0, hs => by cases hs
  | .nod _, _ + 1, hs => by cases hs
  | .ndt _, 0, hs => by cases hs
  | .ndt _, _ + 1, hs => by cases hs
  | .scr _, 0, hs => by cases hs
  | .scr _, _ + 1, hs => by cases hs
  | .junk, 0, hs => by cases hs
  | .junk, _ + 1, hs => by cases hs
theorem shpL_frz : ∀ (ds : List D) (n : Nat), shpL ds n = true → shpL (VL.frzL ds) n = true
  | [], _, _ => rfl
  | d :: ds, n, h => by
    have h' : shp d n = true ∧ shpL ds n = true := by simpa [shpL] using h
    simp only [VL.frzL, shpL, shp_frz d n h'.1, shpL_frz ds n h'.2, Bool.and_self]
end
/-! ### the same but for who owns it -/
def sim (a b : D) : Prop := pyD a = pyD b
theorem pyL_map : ∀ ds : List D, pyL ds = ds.map pyD
  | [] => rfl
  | d :: ds => by simp [pyL, pyL_map ds]
mutual
theorem pyD_frz : ∀ (d : D), pyD (VL.frz d) = pyD d
  | .non => rfl
  | .bl _ => rfl
  | .int _ => rfl
  | .str _ => rfl
  | .lst o xs => by simp only [VL.frz, pyD, pyL_frz xs]
  | .tup xs => by simp only [VL.frz, pyD, pyL_frz xs]
  | .dic _ _ _ => rfl
  | .hnd _ => rfl
  | .nod _ => rfl
  | .ndt _ => rfl
  | .scr _ => rfl
  | .junk => rfl
theorem pyL_frz : ∀ (ds : List D), pyL (VL.frzL ds) = pyL ds
  | [] => rfl
  | d :: ds => by simp only [VL.frzL, pyL, pyD_frz d, pyL_frz ds]
end
end VL
/-! slots written out -/
namespace VL
open PySem PySem.Spec PyProof.Rows L2
theorem pb_s (i : Nat) (ms : List (Option Nat)) (d : D) (ds e : List D) : putBack (some i :: ms) (d :: ds) e = putBack ms ds (e.set i d) := rfl
theorem pb_n (ms : List (Option Nat)) (d : D) (ds e : List D) : putBack (none :: ms) (d :: ds) e = putBack ms ds e := rfl
theorem pb_0 (e : List D) : putBack [] [] e = e := rfl
theorem pb_1 (d : D) (ds e : List D) : putBack [] (d :: ds) e = e := rfl
theorem st_0 (a b : D) (l : List D) : (a :: l).set 0 b = b :: l := rfl
theorem st_s (a b : D) (l : List D) (n : Nat) : (a :: l).set (n + 1) b = a :: l.set n b := rfl
theorem gt_0 (a : D) (l : List D) : (a :: l)[0]? = some a := rfl
theorem gt_s (a : D) (l : List D) (n : Nat) : (a :: l)[n + 1]? = l[n]? := rfl
theorem ap_0 (l : List D) : ([] : List D) ++ l = l := rfl
theorem ap_s (a : D) (k l : List D) : (a :: k) ++ l = a :: (k ++ l) := rfl
theorem wp_0 (e : List D) : wipeD e [] = e := rfl
theorem wp_s (e : List D) (v : Nat) (vs : List Nat) : wipeD e (v :: vs) = (wipeD e vs).set v .junk := rfl
theorem bk_0 (e1 e : List D) : backD [] e1 e = e := rfl
theorem bk_s (i : Nat) (vs : List Nat) (e1 e : List D) : backD (i :: vs) e1 e = backD vs e1 (match e1[i]? with | some d => e.set i d | none => e) := rfl
theorem mp_0 : List.map (fun x : Str × Nat => x.2) [] = [] := rfl
theorem mp_s (x : Str × Nat) (l : List (Str × Nat)) : List.map (fun x : Str × Nat => x.2) (x :: l) = x.2 :: List.map (fun x : Str × Nat => x.2) l := rfl
variable {P : Program} {w : World} {K : PySem.W.Frag} {mg : Str → Option Value} {base : Heap}
theorem fnv_okJ {x qual : Str} {params : Arguments} {body : List Stmt} {scope : Scope} {dvs : List V} {f : Addr} {fd : FuncData} {N ps : List Str} {k : Nat} {sp : SpV} (F : FunD K x qual params body scope dvs [] f fd) (S : FnScope N ps scope) (FX : List Nat) (js : List D) (t : TSV)
    (hb : ∀ (cdv : Value) (A : Around) (outer : List Env) (s : Shared) (H : Hp) (E : XK), RG k (A.deeper (envOfC qual scope s.heap.objs.size f cdv)) → VSs (cxOf CX0 P w K mg base N qual scope f cdv A outer s H E).nox FX body t)
    (hjs : List.replicate (N.length - ps.length) D.junk = js)
    (hq : ∀ ds C, ds.length = ps.length → sp ds C → fxOk FX 0 ds = true ∧ t { nx := fun e => C .non (outs 0 ds e), rt := fun d e => C d (outs 0 ds e) } (ds ++ js)) : FnV P w K mg base (k + 1) f fd ps sp :=
  fnv_ok F S FX t hb (by subst hjs; exact hq)
end VL
/-! what the top has left, def by def -/
namespace VL
open PySem PySem.Spec PyProof.Rows L2
variable {P : Program} {w : World} {K : PySem.W.Frag} {mg : Str → Option Value} {base : Heap}
theorem fnv_none {k : Nat} {f : Addr} {fd : FuncData} {ps : List Str} {sp : SpV} (h : ∀ ds C, ¬ sp ds C) : FnV P w K mg base k f fd ps sp :=
  ⟨fun _ _ _ _ q => q.1, fun _ _ _ _ _ _ _ _ _ _ _ _ _ ⟨_, _, _, _, _, _, _, hs, _⟩ => (h _ _ hs).elim⟩
/-- the def x stands so -/
structure DefF (K : PySem.W.Frag) (x : Str) (st : Stmt) (dvs : List V) : Prop where
  ex : ∃ (f : Addr) (fd : FuncData), PySem.W.nsIn K mainGlobals x = some (some (.ref f)) ∧ FunD K x x (defArgs st) (defBody st) (defScope st) dvs [] f fd
theorem defF {x : Str} {st : Stmt} {f : Addr} {oc : Value} {od an : Option Addr} {osl : Array (Option Value)} {kV doc pm cdv ct : Value} (a : PySem.W.nsIn K mainGlobals x = some (some (.ref f)))
    (l : K.lookup f = some ⟨oc, od, .func (PySem.W.fnOf x x (defArgs st) (defBody st) (defScope st) .none kV doc pm an cdv ct), osl⟩) (c : PySem.W.codeIn K cdv x = true) (k : PySem.W.keepIn K (.ref f) = true) : DefF K x st [] :=
  ⟨f, _, a, ⟨oc, od, .none, kV, doc, pm, an, cdv, ct, osl, rfl, l, c, .inl ⟨rfl, rfl⟩, .inl rfl⟩, k⟩
/-- .. with defaults -/
theorem defFd {x : Str} {st : Stmt} {f T : Addr} {oc : Value} {od an : Option Addr} {osl : Array (Option Value)} {oT : Obj} {kV doc pm cdv ct : Value} (dvs : List V) (its : List Value) {n : Nat} (hne : dvs ≠ []) (hv : Vals dvs its) (a : PySem.W.nsIn K mainGlobals x = some (some (.ref f)))
    (l : K.lookup f = some ⟨oc, od, .func (PySem.W.fnOf x x (defArgs st) (defBody st) (defScope st) (.ref T) kV doc pm an cdv ct), osl⟩) (lT : K.lookup T = some oT) (dT : oT.data = .seq its.toArray n) (c : PySem.W.codeIn K cdv x = true) (k : PySem.W.keepIn K (.ref f) = true) : DefF K x st dvs :=
  ⟨f, _, a, ⟨oc, od, .ref T, kV, doc, pm, an, cdv, ct, osl, rfl, l, c, .inr ⟨hne, T, _, _, n, rfl, lT, dT, hv⟩, .inl rfl⟩, k⟩
theorem DefF.at' {x : Str} {st : Stmt} {dvs : List V} {h : Heap} (d : DefF K x st dvs) (X : K.In h) (G : h.Ns mainGlobals mg) : ∃ f fd, DefAt K mg x st dvs f fd := by
  obtain ⟨f, fd, a, F⟩ := d.ex
  exact ⟨f, fd, F, PySem.W.mg_of X G a⟩
structure BltF (K : PySem.W.Frag) : Prop where
  len : PySem.W.nsIn K mainGlobals "len" = some none
  range : PySem.W.nsIn K mainGlobals "range" = some none
  isinstance : PySem.W.nsIn K mainGlobals "isinstance" = some none
  int : PySem.W.nsIn K mainGlobals "int" = some none
  str : PySem.W.nsIn K mainGlobals "str" = some none
  bool : PySem.W.nsIn K mainGlobals "bool" = some none
  list : PySem.W.nsIn K mainGlobals "list" = some none
  tuple : PySem.W.nsIn K mainGlobals "tuple" = some none
  dict : PySem.W.nsIn K mainGlobals "dict" = some none
  set : PySem.W.nsIn K mainGlobals "set" = some none
  max : PySem.W.nsIn K mainGlobals "max" = some none
  min : PySem.W.nsIn K mainGlobals "min" = some none
  sum : PySem.W.nsIn K mainGlobals "sum" = some none
  all : PySem.W.nsIn K mainGlobals "all" = some none
  any : PySem.W.nsIn K mainGlobals "any" = some none
  abs : PySem.W.nsIn K mainGlobals "abs" = some none
  sorted : PySem.W.nsIn K mainGlobals "sorted" = some none
  repr : PySem.W.nsIn K mainGlobals "repr" = some none
  zip : PySem.W.nsIn K mainGlobals "zip" = some none
  enumerate : PySem.W.nsIn K mainGlobals "enumerate" = some none
  reversed : PySem.W.nsIn K mainGlobals "reversed" = some none
theorem BltF.blt {h : Heap} (b : BltF K) (X : K.In h) (G : h.Ns mainGlobals mg) : Blt mg :=
  have g : ∀ {x : Str}, PySem.W.nsIn K mainGlobals x = some none → mg x = none := fun z => PySem.W.mg_none_of X G z
  ⟨g b.len, g b.range, g b.isinstance, g b.int, g b.str, g b.bool, g b.list, g b.tuple, g b.dict, g b.set, g b.max, g b.min, g b.sum, g b.all, g b.any, g b.abs, g b.sorted, g b.repr, g b.zip, g b.enumerate, g b.reversed⟩
end VL
namespace VL
open PySem PySem.Spec PyProof.Rows L2
variable {P : Program} {w : World} {K : PySem.W.Frag} {mg : Str → Option Value} {base : Heap}
theorem law_sp {sp : SpV} {H : Hp} {a : Addr} {ns : List Int} (hS : SqL K H a (ns.map V.int)) (h : ∀ C : D → List D → Prop, C (.bl true) [.scr ns] → sp [.scr ns] C) : toSp K 1 sp [.ref a] H (fun v _ => v = .bl true) E0 :=
  ⟨rfl, H, [.scr ns], [], fun d _ => d = .bl true, rfl, ⟨H, [], Same.refl H, Same.refl H, ⟨[], [], rfl, .inr ⟨.ref a, rfl, a, rfl, hS, rfl⟩, rfl⟩, List.nodup_nil, fun p hp => by cases hp⟩, h _ rfl, fun d ds' v H' c _ s => by
    subst c; exact Option.some.inj s.is_bl⟩
theorem DefAt.binds1 {x : Str} {st : Stmt} {f : Addr} {fd : FuncData} {p : Str} (d : DefAt K mg x st [] f fd)
    (h : ∀ (kV doc pm : Value) (an : Option Addr) (cdv ct : Value) (u : Value), bindArgs (PySem.W.fnOf x x (defArgs st) (defBody st) (defScope st) .none kV doc pm an cdv ct) ⟨[u], []⟩ = pure [(p, u)]) : ∀ (s : Shared) (u : Value), BindsTo s fd ⟨[u], []⟩ [(p, u)] := by
  intro s u
  obtain ⟨oc, od, dV, kV, doc, pm, an, cdv, ct, osl, rfl, lk, hcd, hD, hK⟩ := d.fn.ex
  rcases hD with ⟨_, rfl⟩ | ⟨e, _⟩
  · exact .of_eq (h kV doc pm an cdv ct u)
  · exact absurd rfl e
end VL
namespace K59
open PySem PySem.Spec PyProof.Rows L2 StX RZ VL
theorem if_dec {p : Prop} [Decidable p] {A B : Prop} (h1 : p → A) (h2 : ¬p → B) : if decide p = true then A else B := by
  by_cases h : p
  · rw [if_pos (by simpa using h)]; exact h1 h
  · rw [if_neg (by simpa using h)]; exact h2 h
theorem if_bl {b : Bool} {A B : Prop} (h1 : b = true → A) (h2 : b = false → B) : if b = true then A else B := by
  cases b
  · exact h2 rfl
  · exact h1 rfl
theorem if_yes {b : Bool} {A B : Prop} (h : b = true) (k : A) : if b = true then A else B := by rw [if_pos h]; exact k
theorem if_not {b : Bool} {A B : Prop} (h : b = false) (k : B) : if b = true then A else B := by rw [if_neg (by simp [h])]; exact k
theorem ex_some {α : Type} {e : Option α} {P : α → Prop} (d : α) (h : e = some d) (k : P d) : ∃ d, e = some d ∧ P d := ⟨d, h, k⟩
theorem big_small {i : Int} (h1 : -(2 ^ 250) ≤ i) (h2 : i ≤ 2 ^ 250) : Big i := by
  have h : i.natAbs ≤ 2 ^ 250 := by omega
  exact Nat.lt_of_le_of_lt h (Nat.pow_lt_pow_right (by decide) (by decide))
local macro_rules | `(tactic| walk_at "b") => `(tactic| exact big_small (by omega) (by omega))
local macro_rules | `(tactic| walk_at "w1") => `(tactic| first | refine And.intro rfl ?_ | refine And.intro True.intro ?_ | refine And.intro (Nat.le_of_ble_eq_true rfl) ?_ | refine ex_some _ rfl ?_ | refine And.intro (by (try dsimp only); decide) ?_ | refine And.intro ⟨_, _, rfl⟩ ?_ | refine And.intro (And.intro (by decide) (by walk_at "b")) ?_ | refine And.intro (And.intro (by walk_at "b") (by walk_at "b")) ?_ | refine And.intro (by (try dsimp only); omega) ?_ | refine And.intro (And.intro (by omega) (by walk_at "b")) ?_ | refine if_yes (by assumption) ?_ | refine And.intro (by assumption) ?_)
local macro_rules | `(tactic| walk_at "w") => `(tactic| (repeat (conv => whnf
                                                                 walk_at "w1")) <;> (try (conv => whnf)))

def topS (i : Nat) : Stmt := PySem.Challenge.pw_filledup_k59_whole_harmonic_bricks_of_gr.main.body.getD i (.Pass ⟨0, 0, 0, 0⟩)
abbrev s_is_whole : Stmt := topS 1
abbrev N_is_whole : List Str := ["value"]
theorem sc_is_whole : FnScope N_is_whole ["value"] (defScope s_is_whole) := ⟨rfl, rfl, rfl, by decide +kernel, rfl, by decide +kernel, by decide +kernel⟩
abbrev s_is_count : Stmt := topS 2
abbrev N_is_count : List Str := ["value", "least"]
theorem sc_is_count : FnScope N_is_count ["value", "least"] (defScope s_is_count) := ⟨rfl, rfl, rfl, by decide +kernel, rfl, by decide +kernel, by decide +kernel⟩
abbrev s_is_tuple_of : Stmt := topS 3
abbrev N_is_tuple_of : List Str := ["value", "size"]
theorem sc_is_tuple_of : FnScope N_is_tuple_of ["value", "size"] (defScope s_is_tuple_of) := ⟨rfl, rfl, rfl, by decide +kernel, rfl, by decide +kernel, by decide +kernel⟩
abbrev s_is_sided : Stmt := topS 11
abbrev N_is_sided : List Str := ["value"]
theorem sc_is_sided : FnScope N_is_sided ["value"] (defScope s_is_sided) := ⟨rfl, rfl, rfl, by decide +kernel, rfl, by decide +kernel, by decide +kernel⟩
abbrev s_check_floor : Stmt := topS 12
abbrev N_check_floor : List Str := ["floor"]
theorem sc_check_floor : FnScope N_check_floor ["floor"] (defScope s_check_floor) := ⟨rfl, rfl, rfl, by decide +kernel, rfl, by decide +kernel, by decide +kernel⟩
abbrev s_check_brick : Stmt := topS 13
abbrev N_check_brick : List Str := ["brick", "floor"]
theorem sc_check_brick : FnScope N_check_brick ["brick", "floor"] (defScope s_check_brick) := ⟨rfl, rfl, rfl, by decide +kernel, rfl, by decide +kernel, by decide +kernel⟩
abbrev s_sum_there : Stmt := topS 14
abbrev N_sum_there : List Str := ["brick", "side", "many"]
theorem sc_sum_there : FnScope N_sum_there ["brick", "side"] (defScope s_sum_there) := ⟨rfl, rfl, rfl, by decide +kernel, rfl, by decide +kernel, by decide +kernel⟩
abbrev s_does_fill_there : Stmt := topS 15
abbrev N_does_fill_there : List Str := ["brick", "floor", "side"]
theorem sc_does_fill_there : FnScope N_does_fill_there ["brick", "floor"] (defScope s_does_fill_there) := ⟨rfl, rfl, rfl, by decide +kernel, rfl, by decide +kernel, by decide +kernel⟩
abbrev s_does_fill : Stmt := topS 16
abbrev N_does_fill : List Str := ["brick", "floor"]
theorem sc_does_fill : FnScope N_does_fill ["brick", "floor"] (defScope s_does_fill) := ⟨rfl, rfl, rfl, by decide +kernel, rfl, by decide +kernel, by decide +kernel⟩
abbrev s_are_sides : Stmt := topS 18
abbrev N_are_sides : List Str := ["value", "side"]
theorem sc_are_sides : FnScope N_are_sides ["value"] (defScope s_are_sides) := ⟨rfl, rfl, rfl, by decide +kernel, rfl, by decide +kernel, by decide +kernel⟩
abbrev s_is_harmonic : Stmt := topS 19
abbrev N_is_harmonic : List Str := ["value", "one", "late"]
theorem sc_is_harmonic : FnScope N_is_harmonic ["value"] (defScope s_is_harmonic) := ⟨rfl, rfl, rfl, by decide +kernel, rfl, by decide +kernel, by decide +kernel⟩
abbrev s_check_harmonic : Stmt := topS 20
abbrev N_check_harmonic : List Str := ["brick", "chest"]
theorem sc_check_harmonic : FnScope N_check_harmonic ["brick", "chest"] (defScope s_check_harmonic) := ⟨rfl, rfl, rfl, by decide +kernel, rfl, by decide +kernel, by decide +kernel⟩
abbrev s_directions_for : Stmt := topS 21
abbrev N_directions_for : List Str := ["brick", "chest", "todo", "spots", "side", "later", "at"]
theorem sc_directions_for : FnScope N_directions_for ["brick", "chest"] (defScope s_directions_for) := ⟨rfl, rfl, rfl, by decide +kernel, rfl, by decide +kernel, by decide +kernel⟩
abbrev s_does_fill_chest : Stmt := topS 22
abbrev N_does_fill_chest : List Str := ["brick", "chest"]
theorem sc_does_fill_chest : FnScope N_does_fill_chest ["brick", "chest"] (defScope s_does_fill_chest) := ⟨rfl, rfl, rfl, by decide +kernel, rfl, by decide +kernel, by decide +kernel⟩
abbrev s__law_purse : Stmt := topS 24
abbrev N__law_purse : List Str := ["script", "at", "seed"]
theorem sc__law_purse : FnScope N__law_purse ["script", "at"] (defScope s__law_purse) := ⟨rfl, rfl, rfl, by decide +kernel, rfl, by decide +kernel, by decide +kernel⟩
abbrev s__law_mixed : Stmt := topS 25
abbrev N__law_mixed : List Str := ["seed", "spin", "at", "mixed"]
theorem sc__law_mixed : FnScope N__law_mixed ["seed", "spin", "at"] (defScope s__law_mixed) := ⟨rfl, rfl, rfl, by decide +kernel, rfl, by decide +kernel, by decide +kernel⟩
abbrev s__law_draw : Stmt := topS 26
abbrev N__law_draw : List Str := ["purse", "many", "drawn", "found", "piece"]
theorem sc__law_draw : FnScope N__law_draw ["purse", "many"] (defScope s__law_draw) := ⟨rfl, rfl, rfl, by decide +kernel, rfl, by decide +kernel, by decide +kernel⟩
abbrev s__law_one_of : Stmt := topS 27
abbrev N__law_one_of : List Str := ["purse", "some"]
theorem sc__law_one_of : FnScope N__law_one_of ["purse", "some"] (defScope s__law_one_of) := ⟨rfl, rfl, rfl, by decide +kernel, rfl, by decide +kernel, by decide +kernel⟩
abbrev s__law_shuffled : Stmt := topS 28
abbrev N__law_shuffled : List Str := ["purse", "some", "left", "found", "place"]
theorem sc__law_shuffled : FnScope N__law_shuffled ["purse", "some"] (defScope s__law_shuffled) := ⟨rfl, rfl, rfl, by decide +kernel, rfl, by decide +kernel, by decide +kernel⟩
abbrev s__law_same : Stmt := topS 29
abbrev N__law_same : List Str := ["told", "due", "is_like", "key", "one", "other"]
theorem sc__law_same : FnScope N__law_same ["told", "due"] (defScope s__law_same) := ⟨rfl, rfl, rfl, by decide +kernel, rfl, by decide +kernel, by decide +kernel⟩
abbrev s__law_purses : Stmt := topS 30
abbrev N__law_purses : List Str := ["script", "few", "at"]
theorem sc__law_purses : FnScope N__law_purses ["script", "few"] (defScope s__law_purses) := ⟨rfl, rfl, rfl, by decide +kernel, rfl, by decide +kernel, by decide +kernel⟩
abbrev s__law_spoilt : Stmt := topS 31
abbrev N__law_spoilt : List Str := ["thing", "key", "item"]
theorem sc__law_spoilt : FnScope N__law_spoilt ["thing"] (defScope s__law_spoilt) := ⟨rfl, rfl, rfl, by decide +kernel, rfl, by decide +kernel, by decide +kernel⟩
abbrev s__law_is_count : Stmt := topS 32
abbrev N__law_is_count : List Str := ["value"]
theorem sc__law_is_count : FnScope N__law_is_count ["value"] (defScope s__law_is_count) := ⟨rfl, rfl, rfl, by decide +kernel, rfl, by decide +kernel, by decide +kernel⟩
abbrev s__law_orders : Stmt := topS 33
abbrev N__law_orders : List Str := ["some", "found", "at", "late", "other"]
theorem sc__law_orders : FnScope N__law_orders ["some"] (defScope s__law_orders) := ⟨rfl, rfl, rfl, by decide +kernel, rfl, by decide +kernel, by decide +kernel⟩
abbrev s__law_is_harmonic : Stmt := topS 34
abbrev N__law_is_harmonic : List Str := ["value", "one", "other", "side"]
theorem sc__law_is_harmonic : FnScope N__law_is_harmonic ["value"] (defScope s__law_is_harmonic) := ⟨rfl, rfl, rfl, by decide +kernel, rfl, by decide +kernel, by decide +kernel⟩
abbrev s__law_directions : Stmt := topS 35
abbrev N__law_directions : List Str := ["brick", "chest", "order", "side", "at"]
theorem sc__law_directions : FnScope N__law_directions ["brick", "chest"] (defScope s__law_directions) := ⟨rfl, rfl, rfl, by decide +kernel, rfl, by decide +kernel, by decide +kernel⟩
abbrev s__law_brick : Stmt := topS 36
abbrev N__law_brick : List Str := ["purse", "found", "wide", "spin"]
theorem sc__law_brick : FnScope N__law_brick ["purse"] (defScope s__law_brick) := ⟨rfl, rfl, rfl, by decide +kernel, rfl, by decide +kernel, by decide +kernel⟩
abbrev s__law_chest : Stmt := topS 37
abbrev N__law_chest : List Str := ["purse", "brick", "wide", "found", "side", "way"]
theorem sc__law_chest : FnScope N__law_chest ["purse", "brick"] (defScope s__law_chest) := ⟨rfl, rfl, rfl, by decide +kernel, rfl, by decide +kernel, by decide +kernel⟩
abbrev s__law_right : Stmt := topS 38
abbrev N__law_right : List Str := ["purse", "brick", "chest", "noted", "due", "told", "times", "at", "great", "values", "value", "is_one", "some", "side"]
theorem sc__law_right : FnScope N__law_right ["purse"] (defScope s__law_right) := ⟨rfl, rfl, rfl, by decide +kernel, rfl, by decide +kernel, by decide +kernel⟩
abbrev s_law : Stmt := topS 39
abbrev N_law : List Str := ["script", "purse", "spin"]
theorem sc_law : FnScope N_law ["script"] (defScope s_law) := ⟨rfl, rfl, rfl, by decide +kernel, rfl, by decide +kernel, by decide +kernel⟩
/-! ### purses -/
theorem big_lit (n : Nat) (h : Nat.ble n (2 ^ 250) = true := by decide) : Big (n : Int) := big_small (by omega) (by have := Nat.le_of_ble_eq_true h; omega)
def pur (a b c e : Int) : D := .lst true [.int a, .int b, .int c, .int e]
/-- a purse; n: what may still be drawn -/
def PurD (n : Int) (d : D) : Prop := ∃ a b c e : Int, d = pur a b c e ∧ 0 ≤ a ∧ a.natAbs < 2 ^ 1600 ∧ 0 ≤ b ∧ b < 2147483629 ∧ 0 ≤ c ∧ c + n ≤ 2 ^ 60 ∧ 0 ≤ e ∧ e ≤ 64
theorem PurD.less {n m : Int} {d : D} (h : PurD n d) (hm : m ≤ n) : PurD m d := by
  obtain ⟨a, b, c, e, h1, h2, h3, h4, h5, h6, h7, h8, h9⟩ := h
  exact ⟨a, b, c, e, h1, h2, h3, h4, h5, h6, by omega, h8, h9⟩
theorem scr_cut (ns : List Int) (lo hi : Option Int) : ((cutV (ns.map V.int) lo hi).map fun v => match v with | .int i => D.int i | _ => .junk) = ((ns.drop (HT.sIx ns.length 0 lo)).take (HT.sIx ns.length ns.length hi - HT.sIx ns.length 0 lo)).map D.int := by
  unfold cutV
  rw [List.length_map, ← List.map_drop, ← List.map_take, List.map_map]
  rfl
theorem mul_le200 {a b : Int} {x y : Nat} (h1 : a.natAbs ≤ x) (h2 : b.natAbs ≤ y) (h : Nat.ble (x * y) (2 ^ 250) = true := by decide) : Big (a * b) := by
  have h3 : (a * b).natAbs ≤ x * y := by rw [Int.natAbs_mul]; exact Nat.mul_le_mul h1 h2
  have := Nat.le_of_ble_eq_true h
  exact big_small (by omega) (by omega)
theorem mulb {a b : Int} {C : D → Prop} (ha : Big a) (hb : Big b) (k : C (.int (a * b))) : (Big a ∧ Big b) ∧ C (.int (a * b)) := ⟨⟨ha, hb⟩, k⟩
def sp__law_mixed : SpV := fun ds C => ∃ a b c : Int, ds = [.int a, .int b, .int c] ∧ 0 ≤ a ∧ a < 2147483648 ∧ 0 ≤ b ∧ b ≤ 2 ^ 60 ∧ 0 ≤ c ∧ c ≤ 64 ∧ ∀ r : Int, 0 ≤ r → r < 2147483587 → C (.int r) ds
theorem fn__law_mixed {P : Program} {w : World} {K : PySem.W.Frag} {mg : Str → Option Value} {base : Heap} {f : Addr} {fd : FuncData} (hD : DefAt K mg "_law_mixed" s__law_mixed [] f fd) (T : Blt mg)  : FnV P w K mg base 1 f fd ["seed", "spin", "at"] sp__law_mixed := by
  refine fnv_okJ (k := 0) hD.fn sc__law_mixed [0, 1, 2] [.junk] _ (fun cdv A outer s H E hr => (vss_cons (sset 3 sc__law_mixed.nd (ve_add (ve_mul (nm 0) ve_int) (ve_mul (ve_mul ve_int (nm 1)) (nm 1))))
      (vss_cons (sset 3 sc__law_mixed.nd (ve_mod (ve_callTy call_intV ok_int (by rfl) T.int bt_int (va_cons (ve_add (ve_add (nm 3) (ve_mul ve_int (nm 2))) (nm 1)) va_nil)) ve_int))
      (vss_cons (sset 3 sc__law_mixed.nd (ve_mod (ve_callTy call_intV ok_int (by rfl) T.int bt_int (va_cons (ve_add (ve_mul (nm 3) (nm 3)) ve_int) va_nil)) ve_int))
      (vss_one (vs_ret (ve_mod (ve_callTy call_intV ok_int (by rfl) T.int bt_int (va_cons (ve_mul (nm 3) ve_int) va_nil)) ve_int))))))) rfl ?_
  intro ds C hl h
  obtain ⟨a, b, c, rfl, ha, ha2, hb, hb2, hc, hc2, k⟩ := h
  walk_at "w"
  generalize a * 69069 + 104729 * b * b + 7919 * c + b = z
  have h1 := Int.emod_nonneg z (show (2147483647 : Int) ≠ 0 by decide)
  have h2 := Int.emod_lt_of_pos z (show (0 : Int) < 2147483647 by decide)
  generalize z % 2147483647 = y at h1 h2
  walk_at "w"
  generalize y * y + 40503 = z
  have h1 := Int.emod_nonneg z (show (2147483629 : Int) ≠ 0 by decide)
  have h2 := Int.emod_lt_of_pos z (show (0 : Int) < 2147483629 by decide)
  generalize z % 2147483629 = y at h1 h2
  walk_at "w"
  exact k _ (Int.emod_nonneg _ (by decide)) (Int.emod_lt_of_pos _ (by decide))
/-- purse[0]'s beginning -/
def sp__law_purse : SpV := fun ds C => ∃ (ns : List Int) (i : Int), ds = [.scr ns, .int i] ∧ 0 ≤ i ∧ i ≤ 64 ∧ ∀ p, PurD (2 ^ 59) p → C p ds
theorem ints_map : ∀ ns : List Int, intsD (ns.map D.int) = some ns
  | [] => rfl
  | n :: ns => by simp [intsD, ints_map ns]
theorem fn__law_purse {P : Program} {w : World} {K : PySem.W.Frag} {mg : Str → Option Value} {base : Heap} {f : Addr} {fd : FuncData} (hD : DefAt K mg "_law_purse" s__law_purse [] f fd) (T : Blt mg)  : FnV P w K mg base 1 f fd ["script", "at"] sp__law_purse := by
  refine fnv_okJ (k := 0) hD.fn sc__law_purse [0, 1] [.junk] _ (fun cdv A outer s H E hr => (vss_cons (sset 2 sc__law_purse.nd (ve_callB (cr_sum rfl) ok_sum (by rfl) T.sum bt_sum (va_cons (ve_slice (nm 0) (vo_some (nm 1)) (vo_some (ve_add (nm 1) ve_int))) va_nil)))
      (vss_one (vs_ret (ve_lst (va_cons (ve_mod (ve_callTy call_intV ok_int (by rfl) T.int bt_int (va_cons (ve_callB (call_max2V rfl) ok_max2 (by rfl) T.max bt_max (va_cons (ve_sub (nm 2) (ve_pow ve_int ve_int)) (va_cons ve_int va_nil))) va_nil)) (ve_pow (ve_pow ve_int ve_int) ve_int)) (va_cons (ve_mod (ve_callTy call_intV ok_int (by rfl) T.int bt_int (va_cons (nm 2) va_nil)) ve_int) (va_cons ve_int (va_cons (nm 1) va_nil))))))))) rfl ?_
  intro ds C hl h
  obtain ⟨ns, i, rfl, hi, hi2, k⟩ := h
  walk_at "w"
  refine ex_some _ ((congrArg intsD (scr_cut ns _ _)).trans (ints_map _)) ?_
  generalize List.take (HT.sIx ns.length ns.length (some (i + 1)) - HT.sIx ns.length 0 (some i)) (List.drop (HT.sIx ns.length 0 (some i)) ns) = ms
  walk_at "w"
  refine k _ ?_
  refine ⟨_, _, _, _, rfl, ?_, ?_, ?_, ?_, by decide, by decide, hi, hi2⟩
  · exact Int.emod_nonneg _ (by decide)
  rotate_left
  · exact Int.emod_nonneg _ (by decide)
  · exact Int.emod_lt_of_pos _ (by decide)
  have h1 := Int.emod_nonneg (if (0 : Int) > ms.sum - 10 ^ (18 : Int).toNat then 0 else ms.sum - 10 ^ (18 : Int).toNat) (show ((10 ^ (60 : Int).toNat) ^ (8 : Int).toNat : Int) ≠ 0 by decide)
  have h2 := Int.emod_lt_of_pos (if (0 : Int) > ms.sum - 10 ^ (18 : Int).toNat then 0 else ms.sum - 10 ^ (18 : Int).toNat) (show (0 : Int) < ((10 ^ (60 : Int).toNat) ^ (8 : Int).toNat : Int) by decide)
  have h3 : ((10 ^ (60 : Int).toNat) ^ (8 : Int).toNat : Int).natAbs < 2 ^ 1600 := by decide
  omega
def sp__law_draw : SpV := fun ds C => ∃ (p : D) (m n : Int), ds = [p, .int m] ∧ 0 < m ∧ m < 2 ^ 200 ∧ 0 ≤ n ∧ PurD (n + 8) p ∧ ∀ r p', 0 ≤ r → r < m → PurD n p' → C (.int r) [p', .int m]
theorem fn__law_draw {P : Program} {w : World} {K : PySem.W.Frag} {mg : Str → Option Value} {base : Heap} {f : Addr} {fd : FuncData} (hD : DefAt K mg "_law_draw" s__law_draw [] f fd) (T : Blt mg) (c__law_mixed : CallOk P w K mg base "_law_mixed" 1 ["seed", "spin", "at"] sp__law_mixed) : FnV P w K mg base 2 f fd ["purse", "many"] sp__law_draw := by
  refine fnv_okJ (k := 1) hD.fn sc__law_draw [0, 1] [.junk, .junk, .junk] _ (fun cdv A outer s H E hr => (vss_cons (vs_if (vt_pure (vt_cmp op_gt ok_gt (ve_ix ix_seq ok_ix (nm 0) ve_int (fun _ _ => rfl)) ve_int (nomark _))) (vss_cons (sset 2 sc__law_draw.nd (ve_pure (ve_mod (ve_callTy call_intV ok_int (by rfl) T.int bt_int (va_cons (ve_ix ix_seq ok_ix (nm 0) ve_int (fun _ _ => rfl)) va_nil)) (nm 1))))
      (vss_cons (vs_setIx 0 (pv 0) (ve_pure (ve_div (ve_ix ix_seq ok_ix (nm 0) ve_int (fun _ _ => rfl)) (nm 1))) ve_int)
      (vss_one (vs_ret (mv 2))))) vss_nil)
      (vss_cons (sset 3 sc__law_draw.nd ve_int)
      (vss_cons (vs_for PassesOwn.never rfl (vi_range1 (by rfl) T.range (va_cons (ve_add ve_int (ve_div (ve_bits (nm 1)) ve_int)) va_nil)) (tg 4 sc__law_draw.nd) (vss_cons (vs_setIx 0 (pv 0) (ve_pure (ve_add (ve_ix ix_seq ok_ix (nm 0) ve_int (fun _ _ => rfl)) ve_int)) ve_int)
      (vss_one (sset 3 sc__law_draw.nd (ve_pure (ve_add (ve_mul (nm 3) ve_int) (call c__law_mixed (hr.mono (j := 1) (by decide)) (vm_val (ve_ix ix_seq ok_ix (nm 0) ve_int (fun _ _ => rfl)) (vm_val (ve_ix ix_seq ok_ix (nm 0) ve_int (fun _ _ => rfl)) (vm_val (ve_ix ix_seq ok_ix (nm 0) ve_int (fun _ _ => rfl)) vm_nil))))))))) (by decide))
      (vss_one (vs_ret (ve_mod (ve_callTy call_intV ok_int (by rfl) T.int bt_int (va_cons (nm 3) va_nil)) (nm 1)))))))) rfl ?_
  intro ds C hl h
  obtain ⟨p, m, n, rfl, hm, hm2, hn, ⟨a, b, c, e, rfl, ha, ha2, hb, hb2, hc, hc2, he, he2⟩, k⟩ := h
  unfold pur
  walk_at "w"
  refine if_dec (fun h0 => ?_) (fun h0 => ?_)
  · walk_at "w"
    refine k (a % m) (pur (a / m) b c e) (Int.emod_nonneg _ (by omega)) (Int.emod_lt_of_pos _ hm) ⟨_, _, _, _, rfl, Int.ediv_nonneg ha (by omega), ?_, hb, hb2, hc, by omega, he, he2⟩
    have h1 : (a / m).natAbs ≤ a.natAbs := by
      have h2 := Int.ediv_le_self m ha
      have h3 := Int.ediv_nonneg ha (show (0 : Int) ≤ m by omega)
      omega
    omega
  · have hbits : Builtin.Int.intBits m ≤ 200 := PyProof.Rows.intBits_le (by omega)
    walk_at "w"
    refine ForP.mk ⟨fun j env => ∃ (x : Int) (d : D), env = [pur a b (c + (j : Nat)) e, .int m, .junk, .int x, d] ∧ 0 ≤ x ∧ x < ((2147483587 ^ j : Nat) : Int), ⟨0, .junk, by rw [show c + ((0 : Nat) : Int) = c by omega]; rfl, by decide, by decide⟩, ?_, ?_⟩
    · rintro j d env hj ⟨x, d', rfl, hx, hx2⟩
      obtain ⟨hj1, rfl⟩ := rngD_get hj
      have hj2 : j ≤ 7 := by omega
      have hx3 : (2147483587 ^ j : Nat) ≤ 2147483587 ^ 7 := Nat.pow_le_pow_right (by decide) hj2
      walk_at "w"
      refine ⟨b, c + (j : Nat) + 1, e, rfl, hb, by omega, by omega, by omega, he, he2, fun r hr hr2 => ?_⟩
      walk_at "w"
      have hp : (2147483587 ^ (j + 1) : Nat) = 2147483587 ^ j * 2147483587 := Nat.pow_succ _ _
      exact ⟨_, .int (0 + (j : Nat)), by rw [show c + ((j + 1 : Nat) : Int) = c + (j : Nat) + 1 by omega]; rfl, by omega, by omega⟩
    · rintro env ⟨x, d', rfl, hx, hx2⟩
      walk_at "w"
      refine k (x % m) (pur a b _ e) (Int.emod_nonneg _ (by omega)) (Int.emod_lt_of_pos _ hm) ⟨_, _, _, _, rfl, ha, ha2, hb, hb2, by omega, ?_, he, he2⟩
      simp only [rngD, List.length_map, List.length_range]
      omega
theorem atI_nat {α : Type} {xs : List α} {i : Int} {x : α} (h0 : 0 ≤ i) (h : xs[i.toNat]? = some x) : atI xs i = some x := by
  obtain ⟨j, rfl⟩ := Int.eq_ofNat_of_zero_le h0
  have h : xs[j]? = some x := h
  have hl := (List.getElem?_eq_some_iff.mp h).1
  unfold atI ixN
  rw [if_pos h0, if_pos (by omega)]
  exact h
theorem atI_mem {α : Type} {xs : List α} {i : Int} (h0 : 0 ≤ i) (h1 : i < xs.length) : ∃ x, x ∈ xs ∧ xs[i.toNat]? = some x ∧ atI xs i = some x := by
  have hl : i.toNat < xs.length := by omega
  exact ⟨xs[i.toNat], List.getElem_mem hl, List.getElem?_eq_getElem hl, atI_nat h0 (List.getElem?_eq_getElem hl)⟩
/-- out of a frozen list -/
def sp__law_one_of : SpV := fun ds C => ∃ (p : D) (xs : List D) (n : Int), ds = [p, .lst true xs] ∧ fzAL xs = true ∧ xs ≠ [] ∧ xs.length < 16777216 ∧ 0 ≤ n ∧ PurD (n + 8) p ∧ ∀ x p', x ∈ xs → PurD n p' → C x [p', .lst false xs]
theorem fn__law_one_of {P : Program} {w : World} {K : PySem.W.Frag} {mg : Str → Option Value} {base : Heap} {f : Addr} {fd : FuncData} (hD : DefAt K mg "_law_one_of" s__law_one_of [] f fd) (T : Blt mg) (c__law_draw : CallOk P w K mg base "_law_draw" 2 ["purse", "many"] sp__law_draw) : FnV P w K mg base 3 f fd ["purse", "some"] sp__law_one_of := by
  refine fnv_okJ (k := 2) hD.fn sc__law_one_of [0, 1] [] _ (fun cdv A outer s H E hr => (vss_one (vs_ret (ve_ix ix_seq ok_ix (nm 1) (call c__law_draw (hr.mono (j := 2) (by decide)) (vm_lend 0 (pv 0) (vm_val (ve_callB call_lenV ok_len (by rfl) T.len bt_len (va_cons (nm 1) va_nil)) vm_nil))) (fun _ _ => rfl))))) rfl ?_
  intro ds C hl h
  obtain ⟨p, xs, n, rfl, hz, hne, hlen, hn, ⟨a, b, c, e, rfl, hp⟩, k⟩ := h
  walk_at "w"
  have hl : 0 < xs.length := List.length_pos_iff.mpr hne
  refine ⟨pur a b c e, xs.length, n, by rw [frzL_fzA xs hz]; rfl, by omega, by omega, hn, ⟨a, b, c, e, rfl, hp⟩, fun r p' hr hr2 hp' => ?_⟩
  obtain ⟨x, hx, _, hx2⟩ := atI_mem hr hr2
  walk_at "w"
  refine ex_some x ((congrArg (fun z => atI z r) (frzL_fzA xs hz)).trans hx2) ?_
  have q := k x p' hx hp'
  rw [← frzL_fzA xs hz] at q
  exact q
theorem cut_take (xs : List D) {i : Int} (h0 : 0 ≤ i) : cutD xs none (some i) = xs.take i.toNat := by
  obtain ⟨j, rfl⟩ := Int.eq_ofNat_of_zero_le h0
  show (xs.drop (HT.sIx xs.length 0 none)).take (HT.sIx xs.length xs.length (some (j : Int)) - HT.sIx xs.length 0 none) = xs.take j
  rw [HT.sIx_nat, HT.sIx_none, List.drop_zero, Nat.sub_zero]
  rcases Nat.le_total j xs.length with h | h
  · rw [Nat.min_eq_left h]
  · rw [Nat.min_eq_right h, List.take_length, List.take_of_length_le h]
theorem cut_drop (xs : List D) {i : Int} (h0 : 0 ≤ i) : cutD xs (some i) none = xs.drop i.toNat := by
  obtain ⟨j, rfl⟩ := Int.eq_ofNat_of_zero_le h0
  show (xs.drop (HT.sIx xs.length 0 (some (j : Int)))).take (HT.sIx xs.length xs.length none - HT.sIx xs.length 0 (some (j : Int))) = xs.drop j
  rw [HT.sIx_nat, HT.sIx_none]
  rcases Nat.le_total j xs.length with h | h
  · rw [Nat.min_eq_left h, List.take_of_length_le (by rw [List.length_drop]; omega)]
  · rw [Nat.min_eq_right h, List.drop_of_length_le h, List.drop_length, List.take_nil]
theorem perm_out {α : Type} {xs : List α} {r : Nat} {x : α} (h : xs[r]? = some x) : (x :: (xs.take r ++ xs.drop (r + 1))).Perm xs := by
  obtain ⟨hl, e⟩ := List.getElem?_eq_some_iff.mp h
  have q : xs = xs.take r ++ x :: xs.drop (r + 1) := by
    rw [← e, ← List.drop_eq_getElem_cons hl, List.take_append_drop]
  refine List.Perm.trans ?_ (List.Perm.of_eq q.symm)
  exact List.perm_middle.symm
/-- what may be laid into lists and compared -/
def okD (n : Nat) (d : D) : Prop := fzA d = true ∧ shp d n = true
theorem okD_fz {n : Nat} {xs : List D} (h : ∀ x ∈ xs, okD n x) : fzAL xs = true := by
  rw [fzAL_all, List.all_eq_true]; exact fun x hx => (h x hx).1
theorem okD_shp {n : Nat} {xs : List D} (h : ∀ x ∈ xs, okD n x) : shpL xs n = true := by
  rw [shpL_all, List.all_eq_true]; exact fun x hx => (h x hx).2
theorem okD_frzL {n : Nat} {xs : List D} (h : ∀ x ∈ xs, okD n x) : frzL xs = xs := frzL_fzA xs (okD_fz h)
/-- shuffled -/
def sp__law_shuffled : SpV := fun ds C => ∃ (p : D) (xs : List D) (n : Int), ds = [p, .lst false xs] ∧ (∀ x ∈ xs, okD 59 x) ∧ xs.length < 16777216 ∧ 0 ≤ n ∧ PurD (n + 8 * xs.length) p ∧ ∀ ys p', ys.Perm xs → PurD n p' → C (.lst true ys) [p', .lst false xs]
theorem fn__law_shuffled {P : Program} {w : World} {K : PySem.W.Frag} {mg : Str → Option Value} {base : Heap} {f : Addr} {fd : FuncData} (hD : DefAt K mg "_law_shuffled" s__law_shuffled [] f fd) (T : Blt mg) (c__law_draw : CallOk P w K mg base "_law_draw" 2 ["purse", "many"] sp__law_draw) : FnV P w K mg base 3 f fd ["purse", "some"] sp__law_shuffled := by
  refine fnv_okJ (k := 2) hD.fn sc__law_shuffled [0, 1] [.junk, .junk, .junk] _ (fun cdv A outer s H E hr => (vss_cons (spar (i := 2) (j := 3) rfl sc__law_shuffled.nd (va_cons (ve_callTy call_listV ok_list (by rfl) T.list bt_list (va_cons (nm 1) va_nil)) (va_cons (ve_lst va_nil) va_nil)) rfl rfl (by decide) rfl rfl (by decide) (by rfl))
      (vss_cons (vs_while PassesOwn.never (vt_cmp (op_neV hr.hu) ok_ne (nm 2) (ve_lst va_nil) (nomark _)) (vss_cons (sset 4 sc__law_shuffled.nd (call c__law_draw (hr.mono (j := 2) (by decide)) (vm_lend 0 (pv 0) (vm_val (ve_callB call_lenV ok_len (by rfl) T.len bt_len (va_cons (nm 2) va_nil)) vm_nil))))
      (vss_cons (vs_expr (ve_app 3 (pv 3) (ve_ix ix_seq ok_ix (nm 2) (nm 4) (fun _ _ => rfl))))
      (vss_one (sset 2 sc__law_shuffled.nd (ve_add (ve_slice (nm 2) vo_none (vo_some (nm 4))) (ve_slice (nm 2) (vo_some (ve_add (nm 4) ve_int)) vo_none)))))))
      (vss_one (vs_ret (mv 3)))))) rfl ?_
  intro ds C hl h
  obtain ⟨p, xs, n, rfl, hz, hlen, hn, hp, k⟩ := h
  have hp0 := hp
  obtain ⟨a, b, c, e, rfl, -⟩ := hp0
  walk_at "w"
  refine WhileP.mk ⟨fun m env => ∃ (left found : List D) (p d : D), env = [p, .lst false xs, .lst true left, .lst true found, d] ∧ m = left.length ∧ (found ++ left).Perm xs ∧ PurD (n + 8 * left.length) p, ⟨_, xs, [], _, _, rfl, rfl, .refl _, hp⟩, ?_⟩
  rintro m env ⟨left, found, p, d, rfl, rfl, hperm, hp⟩
  have hz2 : ∀ x ∈ left, okD 59 x := fun x hx => hz x (hperm.subset (List.mem_append_right _ hx))
  have hlen2 : found.length + left.length = xs.length := by rw [← List.length_append]; exact hperm.length_eq
  cases left with
  | nil =>
    rw [List.append_nil] at hperm
    have hp2 : PurD n p := hp.less (by simp)
    have hp3 := hp2
    obtain ⟨a, b, c, e, rfl, -⟩ := hp3
    walk_at "w"
    refine ⟨⟨rfl, rfl⟩, ?_⟩
    walk_at "w"
    exact k _ _ hperm hp2
  | cons y left =>
    have hf := okD_frzL hz2
    have hs : shpL (frzL (y :: left)) 59 = true := by rw [hf]; exact okD_shp hz2
    have hp3 := hp
    obtain ⟨a, b, c, e, rfl, -⟩ := hp3
    walk_at "w"
    refine ⟨⟨hs, rfl⟩, ?_⟩
    walk_at "w"
    simp only [List.length_cons] at hp hlen2
    refine ⟨pur a b c e, ((y :: left).length : Nat), n + 8 * left.length, by rw [hf]; rfl, by simp only [List.length_cons]; omega, by simp only [List.length_cons]; omega, by omega, hp.less (by omega), fun r p' hr hr2 hp' => ?_⟩
    obtain ⟨x, hx, hx2, hx3⟩ := atI_mem hr hr2
    walk_at "w"
    rw [← hf] at hx3
    refine ex_some x hx3 ?_
    walk_at "w"
    have hq := perm_out hx2
    have e1 : VL.cutD (frzL (y :: left)) none (some r) ++ VL.cutD (frzL (y :: left)) (some (r + 1)) none = (y :: left).take r.toNat ++ (y :: left).drop (r.toNat + 1) := by
      rw [hf, cut_take _ hr, cut_drop _ (by omega), show (r + 1).toNat = r.toNat + 1 by omega]
    have e2 : (VL.cutD (frzL (y :: left)) none (some r)).length + (VL.cutD (frzL (y :: left)) (some (r + 1)) none).length = left.length := by
      rw [← List.length_append, e1]
      have := hq.length_eq
      simp only [List.length_cons] at this
      omega
    refine ⟨by omega, ?_⟩
    walk_at "w"
    rw [e1]
    have e3 : ((y :: left).take r.toNat ++ (y :: left).drop (r.toNat + 1)).length = left.length := by rw [← e1, List.length_append]; exact e2
    refine ⟨left.length, by simp, (y :: left).take r.toNat ++ (y :: left).drop (r.toNat + 1), found ++ [x], p', .int r, rfl, e3.symm, ?_, by rw [e3]; exact hp'⟩
    refine List.Perm.trans ?_ hperm
    rw [List.append_assoc]
    exact List.Perm.append_left _ hq
def sp__law_purses : SpV := fun ds C => ∃ (ns : List Int) (k : Int), ds = [.scr ns, .int k] ∧ k ≤ 64 ∧ ∀ ps, (∀ p ∈ ps, PurD (2 ^ 59) p) → ps.length ≤ 64 → C (.lst true ps) ds
theorem fn__law_purses {P : Program} {w : World} {K : PySem.W.Frag} {mg : Str → Option Value} {base : Heap} {f : Addr} {fd : FuncData} (hD : DefAt K mg "_law_purses" s__law_purses [] f fd) (T : Blt mg) (c__law_purse : CallOk P w K mg base "_law_purse" 1 ["script", "at"] sp__law_purse) : FnV P w K mg base 2 f fd ["script", "few"] sp__law_purses := by
  refine fnv_okJ (k := 1) hD.fn sc__law_purses [0, 1] [.junk] _ (fun cdv A outer s H E hr => (vss_one (vs_ret (ve_lcX rfl sc__law_purses.nd (vi_range1 (by rfl) T.range (va_cons (ve_callB (call_max2V rfl) ok_max2 (by rfl) T.max bt_max (va_cons ve_int (va_cons (ve_callB (call_min2V rfl) ok_min2 (by rfl) T.min bt_min (va_cons (nm 1) (va_cons (ve_callB call_lenV ok_len (by rfl) T.len bt_len (va_cons (nm 0) va_nil)) va_nil))) va_nil))) va_nil)) (blkOk_by (own := [("at", 2)]) (N := N__law_purses) (show blkC N__law_purses (defScope s__law_purses) _ [("at", 2)] = true from by decide +kernel)) (fun _ _ _ _ _ => ⟨_, (tg 2 sc__law_purses.nd)⟩) (fun _ _ _ _ _ => ⟨_, vts_nil⟩) (fun _ _ _ _ _ => ⟨_, (call c__law_purse (hr.mono (j := 1) (by decide)) (vm_val (nm 0) (vm_val (nm 2) vm_nil)))⟩))))) rfl ?_
  intro ds C hl h
  obtain ⟨ns, m, rfl, hm, k⟩ := h
  walk_at "w"
  refine LcP.mk ⟨fun j acc env => env = [.scr ns, .int m, .junk] ∧ acc.length = j ∧ ∀ p ∈ acc, PurD (2 ^ 59) p, ⟨rfl, rfl, fun p hp => by cases hp⟩, ?_, ?_⟩
  · rintro j d acc env hj ⟨rfl, ha, hp⟩
    obtain ⟨hj1, rfl⟩ := rngD_get hj
    have hj2 : j ≤ 64 := by split at hj1 <;> split at hj1 <;> omega
    walk_at "w"
    refine ⟨ns, _, rfl, by omega, by omega, fun p hp2 => ?_⟩
    walk_at "w"
    refine ⟨by simp [ha], fun q hq => ?_⟩
    rcases List.mem_append.mp hq with hq | hq
    · exact hp q hq
    · obtain rfl := List.mem_singleton.mp hq; exact hp2
  · rintro acc env ⟨rfl, ha, hp⟩
    refine k acc hp ?_
    rw [ha]
    simp only [rngD, List.length_map, List.length_range]
    split <;> split <;> omega

/-! ### _law_same, _law_spoilt -/
theorem zip_mem : ∀ {ys xs : List D} {d : D}, pyL ys = pyL xs → d ∈ zipD ys xs → ∃ y x, d = .tup [y, x] ∧ y ∈ ys ∧ x ∈ xs ∧ pyD y = pyD x
  | [], _, d, _, h => by cases h
  | y :: ys, [], d, _, h => by cases h
  | y :: ys, x :: xs, d, e, h => by
    simp only [pyL, List.cons.injEq] at e
    have h : d = .tup [y, x] ∨ d ∈ zipD ys xs := by simpa [zipD] using h
    rcases h with rfl | h
    · exact ⟨y, x, rfl, List.mem_cons_self, List.mem_cons_self, e.1⟩
    · obtain ⟨y', x', a, b, c, f⟩ := zip_mem e.2 h
      exact ⟨y', x', a, List.mem_cons_of_mem _ b, List.mem_cons_of_mem _ c, f⟩
theorem bls_map {α : Type} (f : α → Bool) : ∀ xs : List α, blsD (xs.map fun x => D.bl (f x)) = some (xs.map f)
  | [] => rfl
  | x :: xs => by simp [blsD, bls_map f xs]
theorem fzAL_mem {xs : List D} (h : fzAL xs = true) {x : D} (hx : x ∈ xs) : fzA x = true := by
  rw [fzAL_all, List.all_eq_true] at h; exact h x hx
theorem shpL_mem {xs : List D} {n : Nat} (h : shpL xs n = true) {x : D} (hx : x ∈ xs) : shp x n = true := by
  rw [shpL_all, List.all_eq_true] at h; exact h x hx
mutual
/-- no list too long -/
def lenA : D → Bool
  | .lst _ xs => Nat.ble xs.length 16777215 && lenAL xs
  | .tup xs => Nat.ble xs.length 16777215 && lenAL xs
  | _ => true
def lenAL : List D → Bool
  | [] => true
  | d :: ds => lenA d && lenAL ds
end
theorem lenAL_all : ∀ ds : List D, lenAL ds = ds.all lenA
  | [] => rfl
  | d :: ds => by simp [lenAL, lenAL_all ds]
theorem lenAL_mem {xs : List D} (h : lenAL xs = true) {x : D} (hx : x ∈ xs) : lenA x = true := by
  rw [lenAL_all, List.all_eq_true] at h; exact h x hx
theorem all_true {α : Type} : ∀ xs : List α, ((xs.map fun _ => true).all id) = true
  | [] => rfl
  | x :: xs => by simp
def sp__law_same : Nat → SpV
  | 0 => fun _ _ => False
  | n + 1 => fun ds C => ∃ a b : D, ds = [a, b] ∧ fzA a = true ∧ fzA b = true ∧ shp a n = true ∧ shp b n = true ∧ lenA b = true ∧ n ≤ 50 ∧ pyD a = pyD b ∧ C (.bl true) ds
theorem step__law_same {P : Program} {w : World} {K : PySem.W.Frag} {mg : Str → Option Value} {base : Heap} {f : Addr} {fd : FuncData} {n : Nat} (hD : DefAt K mg "_law_same" s__law_same [] f fd) (T : Blt mg)  (c__law_same : CallOk P w K mg base "_law_same" (0 + n) ["told", "due"] (sp__law_same n)) : CallOk P w K mg base "_law_same" (0 + (n + 1)) ["told", "due"] (sp__law_same (n + 1)) := by
  refine hD.call (fnv_okJ (k := 0 + n) hD.fn sc__law_same [0, 1] [.junk, .junk, .junk, .junk] _ (fun cdv A outer s H E hr => (vss_cons (vs_if (vt_tru (ve_isi T.isinstance (by rfl) (nm 1) (pe_bltn (v := .ty "dict") (by rfl) T.dict bt_dict rfl))) (vss_cons (sset 2 sc__law_same.nd (ve_and (ve_isi T.isinstance (by rfl) (nm 0) (pe_bltn (v := .ty "dict") (by rfl) T.dict bt_dict rfl)) (ve_and (ve_cmp (op_eqV hr.hu) ok_eq (ve_callB call_lenV ok_len (by rfl) T.len bt_len (va_cons (nm 0) va_nil)) (ve_callB call_lenV ok_len (by rfl) T.len bt_len (va_cons (nm 1) va_nil)) (nomark _)) (ve_one (ve_callB (cr_all rfl) ok_all (by rfl) T.all bt_all (va_cons (ve_lcX rfl sc__law_same.nd (vi_any (nm 1)) (blkOk_by (own := [("key", 3)]) (N := N__law_same) (show blkC N__law_same (defScope s__law_same) _ [("key", 3)] = true from by decide +kernel)) (fun _ _ _ _ _ => ⟨_, (tg 3 sc__law_same.nd)⟩) (fun _ _ _ _ _ => ⟨_, vts_nil⟩) (fun _ _ _ _ _ => ⟨_, (ve_cmp op_in_seq (ok_in (neg := false)) (nm 3) (nm 0) (by rfl))⟩)) va_nil))))))
      (vss_one (vs_ret (ve_and (nm 2) (ve_one (ve_callB (cr_all rfl) ok_all (by rfl) T.all bt_all (va_cons (ve_lcX rfl sc__law_same.nd (vi_any (nm 1)) (blkOk_by (own := [("key", 3)]) (N := N__law_same) (show blkC N__law_same (defScope s__law_same) _ [("key", 3)] = true from by decide +kernel)) (fun _ _ _ _ _ => ⟨_, (tg 3 sc__law_same.nd)⟩) (fun _ _ _ _ _ => ⟨_, vts_nil⟩) (fun _ _ _ _ _ => ⟨_, (call c__law_same hr (vm_val (ve_ix ix_seq ok_ix (nm 0) (nm 3) (fun _ _ => rfl)) (vm_val (ve_ix ix_seq ok_ix (nm 1) (nm 3) (fun _ _ => rfl)) vm_nil)))⟩)) va_nil))))))) vss_nil)
      (vss_cons (vs_if (vt_tru (ve_isiT (Ts := ["list", "tuple"]) T.isinstance (by rfl) (nm 1) (pa_cons (pe_bltn (v := .ty "list") (by rfl) T.list bt_list rfl) (pa_cons (pe_bltn (v := .ty "tuple") (by rfl) T.tuple bt_tuple rfl) pa_nil)))) (vss_cons (sset 2 sc__law_same.nd (ve_and (ve_cmp (op_eqV hr.hu) ok_eq (ve_isi T.isinstance (by rfl) (nm 0) (pe_bltn (v := .ty "list") (by rfl) T.list bt_list rfl)) (ve_isi T.isinstance (by rfl) (nm 1) (pe_bltn (v := .ty "list") (by rfl) T.list bt_list rfl)) (nomark _)) (ve_one (ve_cmp (op_eqV hr.hu) ok_eq (ve_isi T.isinstance (by rfl) (nm 0) (pe_bltn (v := .ty "tuple") (by rfl) T.tuple bt_tuple rfl)) (ve_isi T.isinstance (by rfl) (nm 1) (pe_bltn (v := .ty "tuple") (by rfl) T.tuple bt_tuple rfl)) (nomark _)))))
      (vss_one (vs_ret (ve_and (nm 2) (ve_and (ve_cmp (op_eqV hr.hu) ok_eq (ve_callB call_lenV ok_len (by rfl) T.len bt_len (va_cons (nm 0) va_nil)) (ve_callB call_lenV ok_len (by rfl) T.len bt_len (va_cons (nm 1) va_nil)) (nomark _)) (ve_one (ve_callB (cr_all rfl) ok_all (by rfl) T.all bt_all (va_cons (ve_lcX rfl sc__law_same.nd (vi_zip (by rfl) T.zip (va_cons (nm 0) (va_cons (nm 1) va_nil))) (blkOk_by (own := [("one", 4), ("other", 5)]) (N := N__law_same) (show blkC N__law_same (defScope s__law_same) _ [("one", 4), ("other", 5)] = true from by decide +kernel)) (fun _ _ _ _ _ => ⟨_, (vg_tup (n := 2) rfl (vgs_cons (tg 4 sc__law_same.nd) (vgs_cons (tg 5 sc__law_same.nd) vgs_nil)))⟩) (fun _ _ _ _ _ => ⟨_, vts_nil⟩) (fun _ _ _ _ _ => ⟨_, (call c__law_same hr (vm_val (nm 4) (vm_val (nm 5) vm_nil)))⟩)) va_nil)))))))) vss_nil)
      (vss_cons (sset 2 sc__law_same.nd (ve_and (ve_not (ve_isiT (Ts := ["list", "tuple", "dict"]) T.isinstance (by rfl) (nm 0) (pa_cons (pe_bltn (v := .ty "list") (by rfl) T.list bt_list rfl) (pa_cons (pe_bltn (v := .ty "tuple") (by rfl) T.tuple bt_tuple rfl) (pa_cons (pe_bltn (v := .ty "dict") (by rfl) T.dict bt_dict rfl) pa_nil))))) (ve_and (ve_cmp (op_eqV hr.hu) ok_eq (ve_isi T.isinstance (by rfl) (nm 0) (pe_bltn (v := .ty "int") (by rfl) T.int bt_int rfl)) (ve_isi T.isinstance (by rfl) (nm 1) (pe_bltn (v := .ty "int") (by rfl) T.int bt_int rfl)) (nomark _)) (ve_one (ve_cmp (op_eqV hr.hu) ok_eq (ve_isi T.isinstance (by rfl) (nm 0) (pe_bltn (v := .ty "str") (by rfl) T.str bt_str rfl)) (ve_isi T.isinstance (by rfl) (nm 1) (pe_bltn (v := .ty "str") (by rfl) T.str bt_str rfl)) (nomark _))))))
      (vss_one (vs_ret (ve_and (nm 2) (ve_and (ve_cmp (op_eqV hr.hu) ok_eq (ve_cmp op_isV ok_isN (nm 0) ve_non (nomark _)) (ve_cmp op_isV ok_isN (nm 1) ve_non (nomark _)) (nomark _)) (ve_and (ve_cmp (op_eqV hr.hu) ok_eq (ve_isi T.isinstance (by rfl) (nm 0) (pe_bltn (v := .ty "bool") (by rfl) T.bool bt_bool rfl)) (ve_isi T.isinstance (by rfl) (nm 1) (pe_bltn (v := .ty "bool") (by rfl) T.bool bt_bool rfl)) (nomark _)) (ve_one (ve_cmp (op_eqV hr.hu) ok_eq (nm 0) (nm 1) (nomark _)))))))))))) rfl ?_) (fun _ _ _ _ _ _ us hl => match us, hl with | [_, _], _ => rfl)
  intro ds C hl h
  obtain ⟨a, b, rfl, fa, fb, hsa, hs, hlen, hn, he, k⟩ := h
  cases b with
  | non =>
    cases a with
    | non =>
      walk_at "w"
      refine ⟨⟨rfl, rfl⟩, ?_⟩
      exact k
    | _ => first | (simp [shp] at hsa; done) | (simp [pyD] at he; done)
  | int i =>
    cases a with
    | int j =>
      obtain rfl : j = i := by simpa [pyD] using he
      walk_at "w"
      rw [show eqD (D.int j) (D.int j) = true by simp [eqD]]
      exact k
    | _ => exact absurd he (by simp [pyD])
  | bl i =>
    cases a with
    | bl j =>
      obtain rfl : j = i := by simpa [pyD] using he
      walk_at "w"
      rw [show eqD (D.bl j) (D.bl j) = true by simp [eqD]]
      exact k
    | _ => exact absurd he (by simp [pyD])
  | str i =>
    cases a with
    | str j =>
      obtain rfl : j = i := by simpa [pyD] using he
      walk_at "w"
      rw [show eqD (D.str j) (D.str j) = true by simp [eqD]]
      exact k
    | _ => exact absurd he (by simp [pyD])
  | lst o xs =>
    cases a with
    | lst o' ys =>
      cases o with
      | true => cases fb
      | false =>
      cases o' with
      | true => cases fa
      | false =>
      obtain ⟨n, rfl⟩ : ∃ m, n = m + 1 := by
        cases n with
        | zero => cases hs
        | succ m => exact ⟨m, rfl⟩
      have hl : pyL ys = pyL xs := by simpa [pyD] using he
      have hl2 : ys.length = xs.length := by have := congrArg List.length hl; simpa [pyL_map] using this
      have hlen' : xs.length ≤ 16777215 ∧ lenAL xs = true := by simpa [lenA] using hlen
      walk_at "w"
      refine if_yes (by simp [eqD, hl2]) ?_
      walk_at "w"
      refine LcP.map1 (fun _ => .bl true) (by simp [zipD]; omega) (fun d hd J acc ha hJ => ?_) ?_
      · obtain ⟨y, x, rfl, hy, hx, hyx⟩ := zip_mem hl hd
        have fy : fzA y = true := fzAL_mem fa hy
        have fx : fzA x = true := fzAL_mem fb hx
        have fy2 := fz_fzA _ fy
        have fx2 := fz_fzA _ fx
        have ry := real_fzA fy
        have rx := real_fzA fx
        walk_at "w"
        refine ⟨y, x, rfl, fy, fx, shpL_mem hsa hy, shpL_mem hs hx, lenAL_mem hlen'.2 hx, by omega, hyx, ?_⟩
        walk_at "w"
        exact hJ
      · walk_at "w"
        refine ex_some _ (bls_map (fun _ => true) _) ?_
        walk_at "w"
        rw [all_true]
        exact k
    | _ => exact absurd he (by simp [pyD])
  | tup xs =>
    cases a with
    | tup ys =>
      obtain ⟨n, rfl⟩ : ∃ m, n = m + 1 := by
        cases n with
        | zero => cases hs
        | succ m => exact ⟨m, rfl⟩
      have hl : pyL ys = pyL xs := by simpa [pyD] using he
      have hl2 : ys.length = xs.length := by have := congrArg List.length hl; simpa [pyL_map] using this
      have hlen' : xs.length ≤ 16777215 ∧ lenAL xs = true := by simpa [lenA] using hlen
      have fya : isFz (.tup ys) = true := fz_fzA _ fa
      have fxa : isFz (.tup xs) = true := fz_fzA _ fb
      refine ⟨by simp [fxOk], ?_⟩
      walk_at "w"
      refine if_yes (by simp [eqD, hl2]) ?_
      walk_at "w"
      refine LcP.map1 (fun _ => .bl true) (by simp [zipD]; omega) (fun d hd J acc ha hJ => ?_) ?_
      · obtain ⟨y, x, rfl, hy, hx, hyx⟩ := zip_mem hl hd
        have fy : fzA y = true := fzAL_mem fa hy
        have fx : fzA x = true := fzAL_mem fb hx
        have fy2 := fz_fzA _ fy
        have fx2 := fz_fzA _ fx
        have ry := real_fzA fy
        have rx := real_fzA fx
        walk_at "w"
        refine ⟨y, x, rfl, fy, fx, shpL_mem hsa hy, shpL_mem hs hx, lenAL_mem hlen'.2 hx, by omega, hyx, ?_⟩
        walk_at "w"
        exact hJ
      · walk_at "w"
        refine ex_some _ (bls_map (fun _ => true) _) ?_
        walk_at "w"
        rw [all_true]
        have e : outs 0 [D.tup ys, D.tup xs] = fun _ => [D.tup ys, D.tup xs] := by funext e; simp [outs, fya, fxa]
        rw [e]
        exact k
    | _ => exact absurd he (by simp [pyD])
  | _ => cases hs
def sp__law_spoilt : Nat → SpV
  | 0 => fun _ _ => False
  | n + 1 => fun ds C => ∃ a : D, ds = [a] ∧ allOwn a = true ∧ shp a n = true ∧ lenA a = true ∧ ∀ a', C .non [a']
theorem allOwnL_mem {xs : List D} (h : allOwnL xs = true) {x : D} (hx : x ∈ xs) : allOwn x = true := by
  rw [allOwnL_all, List.all_eq_true] at h; exact h x hx
theorem step__law_spoilt {P : Program} {w : World} {K : PySem.W.Frag} {mg : Str → Option Value} {base : Heap} {f : Addr} {fd : FuncData} {n : Nat} (hD : DefAt K mg "_law_spoilt" s__law_spoilt [] f fd) (T : Blt mg)  (c__law_spoilt : CallOk P w K mg base "_law_spoilt" (0 + n) ["thing"] (sp__law_spoilt n)) : CallOk P w K mg base "_law_spoilt" (0 + (n + 1)) ["thing"] (sp__law_spoilt (n + 1)) := by
  refine hD.call (fnv_okJ (k := 0 + n) hD.fn sc__law_spoilt [0] [.junk, .junk] _ (fun cdv A outer s H E hr => (vss_cons (vs_if (vt_pure (vt_tru (ve_isi T.isinstance (by rfl) (nm 0) (pe_bltn (v := .ty "dict") (by rfl) T.dict bt_dict rfl)))) (vss_cons (vs_for PassesOwn.never rfl (vi_any (ve_pure (ve_callTy call_listV ok_list (by rfl) T.list bt_list (va_cons (nm 0) va_nil)))) (tg 1 sc__law_spoilt.nd) (vss_one (vs_expr (call c__law_spoilt hr (vm_val (ve_pure (ve_ix ix_seq ok_ix (nm 0) (nm 1) (fun _ _ => rfl))) vm_nil)))) (by decide))
      (vss_one (vs_setIx 0 (pv 0) ve_str ve_str))) vss_nil)
      (vss_cons (vs_if (vt_pure (vt_tru (ve_isiT (Ts := ["list", "tuple"]) T.isinstance (by rfl) (nm 0) (pa_cons (pe_bltn (v := .ty "list") (by rfl) T.list bt_list rfl) (pa_cons (pe_bltn (v := .ty "tuple") (by rfl) T.tuple bt_tuple rfl) pa_nil))))) (vss_one (vs_forOpen 0 (pv 0) PassesOwn.never rfl (tg 2 sc__law_spoilt.nd) (vss_one (vs_expr (call c__law_spoilt hr (vm_lend 2 (pv 2) vm_nil)))))) vss_nil)
      (vss_one (vs_if (vt_pure (vt_tru (ve_isi T.isinstance (by rfl) (nm 0) (pe_bltn (v := .ty "list") (by rfl) T.list bt_list rfl)))) (vss_one (vs_expr (ve_app 0 (pv 0) ve_str))) vss_nil))))) rfl ?_) (fun _ _ _ _ _ _ us hl => match us, hl with | [_], _ => rfl)
  intro ds C hl h
  obtain ⟨a, rfl, ha, hs, hlen, k⟩ := h
  cases a with
  | lst o xs =>
    obtain ⟨n, rfl⟩ : ∃ m, n = m + 1 := by
      cases n with
      | zero => cases hs
      | succ m => exact ⟨m, rfl⟩
    have ha' : o = true ∧ allOwnL xs = true := by simpa [allOwn] using ha
    obtain ⟨rfl, ha'⟩ := ha'
    have hlen' : xs.length ≤ 16777215 ∧ lenAL xs = true := by simpa [lenA] using hlen
    walk_at "w"
    refine OpenP.mk ⟨fun j e => ∃ d, e = [.junk, .junk, d], ⟨_, rfl⟩, ?_, ?_⟩
    · rintro j x e hx ⟨d, rfl⟩
      have hm := List.mem_of_getElem? hx
      have hr := real_of_shp (shpL_mem hs hm)
      walk_at "w"
      exact ⟨x, rfl, allOwnL_mem ha' hm, shpL_mem hs hm, lenAL_mem hlen'.2 hm, fun a' => ⟨_, rfl⟩⟩
    · rintro e ⟨d, rfl⟩
      walk_at "w"
      refine ⟨by rw [List.length_replicate]; omega, ?_⟩
      exact k _
  | tup xs =>
    obtain ⟨n, rfl⟩ : ∃ m, n = m + 1 := by
      cases n with
      | zero => cases hs
      | succ m => exact ⟨m, rfl⟩
    have ha' : allOwnL xs = true := ha
    have hlen' : xs.length ≤ 16777215 ∧ lenAL xs = true := by simpa [lenA] using hlen
    have hv : isFz (vwD (.tup xs)) = true := vw_of_shp _ _ hs
    refine ⟨by simp [fxOk], ?_⟩
    walk_at "w"
    refine OpenP.mk ⟨fun j e => ∃ d, e = [.junk, .junk, d], ⟨_, rfl⟩, ?_, ?_⟩
    · rintro j x e hx ⟨d, rfl⟩
      have hm := List.mem_of_getElem? hx
      have hr := real_of_shp (shpL_mem hs hm)
      walk_at "w"
      exact ⟨x, rfl, allOwnL_mem ha' hm, shpL_mem hs hm, lenAL_mem hlen'.2 hm, fun a' => ⟨_, rfl⟩⟩
    · rintro e ⟨d, rfl⟩
      have hv2 := vw_junk xs.length
      walk_at "w"
      exact k _
  | non =>
    walk_at "w"
    exact k _
  | bl b =>
    walk_at "w"
    exact k _
  | int i =>
    walk_at "w"
    exact k _
  | str x =>
    walk_at "w"
    exact k _
  | _ => exact absurd hs (by simp [shp])

end K59
namespace K59
open PySem PySem.Spec PyProof.Rows L2 StX RZ VL
local macro_rules | `(tactic| walk_at "b") => `(tactic| exact big_small (by omega) (by omega))
local macro_rules | `(tactic| walk_at "w1") => `(tactic| first | refine And.intro rfl ?_ | refine And.intro True.intro ?_ | refine And.intro (Nat.le_of_ble_eq_true rfl) ?_ | refine ex_some _ rfl ?_ | refine And.intro (by (try dsimp only); decide) ?_ | refine And.intro ⟨_, _, rfl⟩ ?_ | refine And.intro (And.intro (by decide) (by walk_at "b")) ?_ | refine And.intro (And.intro (by walk_at "b") (by walk_at "b")) ?_ | refine And.intro (by (try dsimp only); omega) ?_ | refine And.intro (And.intro (by omega) (by walk_at "b")) ?_ | refine if_yes (by assumption) ?_ | refine And.intro (by assumption) ?_)
local macro_rules | `(tactic| walk_at "w") => `(tactic| (repeat (conv => whnf
                                                                 walk_at "w1")) <;> (try (conv => whnf)))

/-! ### lists of ints -/
mutual
theorem shp_up : ∀ (d : D) (m n : Nat), m ≤ n → shp d m = true → shp d n = true
  | .non, _, _, _, h => by simp [shp]
  | .bl _, _, _, _, h => by simp [shp]
  | .int _, _, _, _, h => by simp [shp]
  | .str x, _, _, _, h => by simpa [shp] using h
  | .lst o xs, m + 1, n + 1, hm, h => by simp only [shp] at h ⊢; exact shpL_up xs m n (by omega) h
  | .tup xs, m + 1, n + 1, hm, h => by simp only [shp] at h ⊢; exact shpL_up xs m n (by omega) h
  | .lst _ _, _ + 1, 0, hm, _ => by omega
  | .tup _, _ + 1, 0, hm, _ => by omega
  | .lst _ _, 0, _, _, hs => by cases hs
  | .tup _, 0, _, _, hs => by cases hs
  | .dic _ _ _, 0, _, _, hs => by cases hs
  | .dic _ _ _, _ + 1, _, _, hs => by cases hs
  | .hnd _, 0, _, _, hs => by cases hs
  | .hnd _, _ + 1, _, _, hs => by cases hs
  | .nod _, 0, _, _, hs => by cases hs
  | .nod _, _ + 1, _, _, hs => by cases hs
  | .ndt _, 0, _, _, hs => by cases hs
  | .ndt _, _ + 1, _, _, hs => by cases hs
  | .scr _, 0, _, _, hs => by cases hs
  | .scr _, _ + 1, _, _, hs => by cases hs
  | .junk, 0, _, _, hs => by cases hs
  | .junk, _ + 1, _, _, hs => by cases hs
theorem shpL_up : ∀ (ds : List D) (m n : Nat), m ≤ n → shpL ds m = true → shpL ds n = true
  | [], _, _, _, _ => rfl
  | d :: ds, m, n, hm, h => by
    have h' : shp d m = true ∧ shpL ds m = true := by simpa [shpL] using h
    simp only [shpL, shp_up d m n hm h'.1, shpL_up ds m n hm h'.2, Bool.and_self]
end
abbrev is (l : List Int) : List D := l.map D.int
theorem shpL_is (l : List Int) (n : Nat) : shpL (is l) n = true := by
  rw [shpL_all]; simp [shp]
theorem fzAL_is (l : List Int) : fzAL (is l) = true := by
  rw [fzAL_all]; simp [fzA]
theorem isFzL_is (l : List Int) : isFzL (is l) = true := by
  rw [isFzL_all]; simp [isFz]
theorem frzL_is (l : List Int) : frzL (is l) = is l := frzL_fzA _ (fzAL_is l)
theorem allOwnL_is (l : List Int) : allOwnL (is l) = true := by
  rw [allOwnL_all]; simp [allOwn]
theorem lenAL_is (l : List Int) : lenAL (is l) = true := by
  rw [lenAL_all]; simp [lenA]
theorem is_inj : ∀ {a b : List Int}, is a = is b → a = b
  | [], [], _ => rfl
  | [], _ :: _, h => by cases h
  | _ :: _, [], h => by cases h
  | x :: a, y :: b, h => by
    simp only [is, List.map_cons, List.cons.injEq, D.int.injEq] at h
    rw [h.1, is_inj (a := a) (b := b) h.2]
theorem eqv_nil_l : ∀ ys : List D, PyData.eqvAll (pyL ys) [] = ys.isEmpty
  | [] => rfl
  | y :: ys => rfl
theorem eqD_nil (o o' : Bool) (ys : List D) : eqD (.lst o ys) (.lst o' []) = ys.isEmpty := by
  show PyData.eqvAll (pyL ys) (pyL []) = ys.isEmpty
  cases ys <;> rfl
theorem cutD_1 (xs : List D) : cutD xs (some 1) none = xs.drop 1 := cut_drop xs (by decide)

def wholeD : D → Bool
  | .int _ => true
  | _ => false
def sideD : D → Bool
  | .int i => decide (1 ≤ i)
  | _ => false
def sp_is_whole : SpV := fun ds C => ∃ d, ds = [d] ∧ okD 55 d ∧ C (.bl (wholeD d)) [d]
theorem fn_is_whole {P : Program} {w : World} {K : PySem.W.Frag} {mg : Str → Option Value} {base : Heap} {f : Addr} {fd : FuncData} (hD : DefAt K mg "is_whole" s_is_whole [] f fd) (T : Blt mg)  : FnV P w K mg base 1 f fd ["value"] sp_is_whole := by
  refine fnv_okJ (k := 0) hD.fn sc_is_whole [0] [] _ (fun cdv A outer s H E hr => (vss_one (vs_ret (ve_and (ve_isi T.isinstance (by rfl) (nm 0) (pe_bltn (v := .ty "int") (by rfl) T.int bt_int rfl)) (ve_one (ve_not (ve_isi T.isinstance (by rfl) (nm 0) (pe_bltn (v := .ty "bool") (by rfl) T.bool bt_bool rfl)))))))) rfl ?_
  intro ds C hl h
  obtain ⟨d, rfl, ⟨hd, hs⟩, k⟩ := h
  cases d with
  | lst o xs =>
    cases o with
    | true => cases hd
    | false => walk_at "w"; exact k
  | tup xs =>
    have h1 : isFz (.tup xs) = true := fz_fzA _ hd
    refine ⟨by simp [fxOk], ?_⟩
    have e : outs 0 [D.tup xs] = fun _ => [D.tup xs] := by funext e; simp [outs, h1]
    rw [e]
    walk_at "w"
    exact k
  | dic o ks xs => cases hs
  | hnd o => cases hd
  | junk => cases hd
  | nod o => cases hs
  | ndt o => cases hs
  | scr o => cases hs
  | _ => walk_at "w"; exact k
def sp_is_count : SpV := fun ds C => ∃ d, ds = [d, .int 1] ∧ okD 55 d ∧ C (.bl (sideD d)) ds
theorem fn_is_count {P : Program} {w : World} {K : PySem.W.Frag} {mg : Str → Option Value} {base : Heap} {f : Addr} {fd : FuncData} (hD : DefAt K mg "is_count" s_is_count [.int 0] f fd) (T : Blt mg) (c_is_whole : CallOk P w K mg base "is_whole" 1 ["value"] sp_is_whole) : FnV P w K mg base 2 f fd ["value", "least"] sp_is_count := by
  refine fnv_okJ (k := 1) hD.fn sc_is_count [0, 1] [] _ (fun cdv A outer s H E hr => (vss_one (vs_ret (ve_and (call c_is_whole (hr.mono (j := 1) (by decide)) (vm_val (nm 0) vm_nil)) (ve_one (ve_cmp op_ge ok_ge (nm 0) (ve_callB (call_max2V rfl) ok_max2 (by rfl) T.max bt_max (va_cons (nm 1) (va_cons ve_int va_nil))) (nomark _))))))) rfl ?_
  intro ds C hl h
  obtain ⟨d, rfl, ⟨hd, hs⟩, k⟩ := h
  have h1 : isFz d = true := fz_fzA _ hd
  have h2 := real_fzA hd
  have e : outs 0 [d, D.int 1] = fun _ => [d, D.int 1] := by funext e; simp [outs, h1, isFz]
  refine ⟨by simp [fxOk, h1], ?_⟩
  rw [e]
  walk_at "w"
  refine ⟨d, rfl, ⟨hd, hs⟩, ?_⟩
  cases d with
  | int i =>
    walk_at "w"
    exact k
  | _ => exact k
def sp_is_tuple_of : SpV := fun ds C => ∃ x y, ds = [.tup [.int x, .int y], .int 2] ∧ C (.bl true) ds
theorem fn_is_tuple_of {P : Program} {w : World} {K : PySem.W.Frag} {mg : Str → Option Value} {base : Heap} {f : Addr} {fd : FuncData} (hD : DefAt K mg "is_tuple_of" s_is_tuple_of [] f fd) (T : Blt mg)  : FnV P w K mg base 1 f fd ["value", "size"] sp_is_tuple_of := by
  refine fnv_okJ (k := 0) hD.fn sc_is_tuple_of [0, 1] [] _ (fun cdv A outer s H E hr => (vss_one (vs_ret (ve_and (ve_isi T.isinstance (by rfl) (nm 0) (pe_bltn (v := .ty "tuple") (by rfl) T.tuple bt_tuple rfl)) (ve_one (ve_cmp (op_eqV hr.hu) ok_eq (ve_callB call_lenV ok_len (by rfl) T.len bt_len (va_cons (nm 0) va_nil)) (nm 1) (nomark _))))))) rfl ?_
  intro ds C hl h
  obtain ⟨x, y, rfl, k⟩ := h
  walk_at "w"
  exact k
def sp_is_sided : SpV := fun ds C => ∃ x y : Int, ds = [.tup [.int x, .int y]] ∧ 1 ≤ x ∧ 1 ≤ y ∧ C (.bl true) ds
theorem fn_is_sided {P : Program} {w : World} {K : PySem.W.Frag} {mg : Str → Option Value} {base : Heap} {f : Addr} {fd : FuncData} (hD : DefAt K mg "is_sided" s_is_sided [] f fd) (T : Blt mg) (c_is_count : CallOk P w K mg base "is_count" 2 ["value", "least"] sp_is_count) (c_is_tuple_of : CallOk P w K mg base "is_tuple_of" 1 ["value", "size"] sp_is_tuple_of) : FnV P w K mg base 3 f fd ["value"] sp_is_sided := by
  refine fnv_okJ (k := 2) hD.fn sc_is_sided [0] [] _ (fun cdv A outer s H E hr => (vss_one (vs_ret (ve_and (call c_is_tuple_of (hr.mono (j := 1) (by decide)) (vm_val (nm 0) (vm_val ve_int vm_nil))) (ve_and (call c_is_count (hr.mono (j := 2) (by decide)) (vm_val (ve_ix ix_seq ok_ix (nm 0) ve_int (fun _ _ => rfl)) (vm_val ve_int vm_nil))) (ve_one (call c_is_count (hr.mono (j := 2) (by decide)) (vm_val (ve_ix ix_seq ok_ix (nm 0) ve_int (fun _ _ => rfl)) (vm_val ve_int vm_nil))))))))) rfl ?_
  intro ds C hl h
  obtain ⟨x, y, rfl, hx, hy, k⟩ := h
  walk_at "w"
  refine ⟨x, y, rfl, ?_⟩
  walk_at "w"
  refine ⟨_, rfl, ⟨rfl, rfl⟩, ?_⟩
  walk_at "w"
  refine if_yes (by simpa [sideD] using hx) ?_
  walk_at "w"
  refine ⟨_, rfl, ⟨rfl, rfl⟩, ?_⟩
  walk_at "w"
  rw [show sideD (.int y) = true by simpa [sideD] using hy]
  exact k
def sp_check_floor : SpV := fun ds C => ∃ x y : Int, ds = [.tup [.int x, .int y]] ∧ 1 ≤ x ∧ 1 ≤ y ∧ C .non ds
theorem fn_check_floor {P : Program} {w : World} {K : PySem.W.Frag} {mg : Str → Option Value} {base : Heap} {f : Addr} {fd : FuncData} (hD : DefAt K mg "check_floor" s_check_floor [] f fd) (T : Blt mg) (c_is_sided : CallOk P w K mg base "is_sided" 3 ["value"] sp_is_sided) : FnV P w K mg base 4 f fd ["floor"] sp_check_floor := by
  refine fnv_okJ (k := 3) hD.fn sc_check_floor [0] [] _ (fun cdv A outer s H E hr => (vss_one (vs_if (vt_not (vt_tru (call c_is_sided (hr.mono (j := 3) (by decide)) (vm_val (nm 0) vm_nil)))) (vss_one vs_never) vss_nil))) rfl ?_
  intro ds C hl h
  obtain ⟨x, y, rfl, hx, hy, k⟩ := h
  walk_at "w"
  refine ⟨x, y, rfl, hx, hy, ?_⟩
  walk_at "w"
  exact k
def sp_check_brick : SpV := fun ds C => ∃ x y m n : Int, ds = [.tup [.int x, .int y], .tup [.int m, .int n]] ∧ 1 ≤ x ∧ 1 ≤ y ∧ 1 ≤ m ∧ 1 ≤ n ∧ C .non ds
theorem fn_check_brick {P : Program} {w : World} {K : PySem.W.Frag} {mg : Str → Option Value} {base : Heap} {f : Addr} {fd : FuncData} (hD : DefAt K mg "check_brick" s_check_brick [] f fd) (T : Blt mg) (c_is_sided : CallOk P w K mg base "is_sided" 3 ["value"] sp_is_sided) (c_check_floor : CallOk P w K mg base "check_floor" 4 ["floor"] sp_check_floor) : FnV P w K mg base 5 f fd ["brick", "floor"] sp_check_brick := by
  refine fnv_okJ (k := 4) hD.fn sc_check_brick [0, 1] [] _ (fun cdv A outer s H E hr => (vss_cons (vs_if (vt_not (vt_tru (call c_is_sided (hr.mono (j := 3) (by decide)) (vm_val (nm 0) vm_nil)))) (vss_one vs_never) vss_nil)
      (vss_one (vs_expr (call c_check_floor (hr.mono (j := 4) (by decide)) (vm_val (nm 1) vm_nil)))))) rfl ?_
  intro ds C hl h
  obtain ⟨x, y, m, n, rfl, hx, hy, hm, hn, k⟩ := h
  walk_at "w"
  refine ⟨x, y, rfl, hx, hy, ?_⟩
  walk_at "w"
  refine ⟨m, n, rfl, hm, hn, ?_⟩
  walk_at "w"
  exact k
/-- a brick's way to a side; the brick harmonic -/
def sp_sum_there : SpV := fun ds C => ∃ a b s : Int, ds = [.tup [.int a, .int b], .int s] ∧ 1 ≤ a ∧ 1 ≤ b ∧ a ∣ b ∧ b ≤ 2 ^ 60 ∧ 1 ≤ s ∧ s ≤ 300 ∧ (a ∣ s → ∀ x y, C (.tup [.int x, .int y]) ds) ∧ (¬ a ∣ s → C .non ds)
theorem fn_sum_there {P : Program} {w : World} {K : PySem.W.Frag} {mg : Str → Option Value} {base : Heap} {f : Addr} {fd : FuncData} (hD : DefAt K mg "sum_there" s_sum_there [] f fd) (T : Blt mg)  : FnV P w K mg base 1 f fd ["brick", "side"] sp_sum_there := by
  refine fnv_okJ (k := 0) hD.fn sc_sum_there [0, 1] [.junk] _ (fun cdv A outer s H E hr => (vss_cons (vs_for PassesOwn.never rfl (vi_range1 (by rfl) T.range (va_cons (ve_callB (call_min2V rfl) ok_min2 (by rfl) T.min bt_min (va_cons (ve_ix ix_seq ok_ix (nm 0) ve_int (fun _ _ => rfl)) (va_cons (ve_add (ve_div (nm 1) (ve_ix ix_seq ok_ix (nm 0) ve_int (fun _ _ => rfl))) ve_int) va_nil))) va_nil)) (tg 2 sc_sum_there.nd) (vss_one (vs_if (vt_cmp (op_eqV hr.hu) ok_eq (ve_mod (ve_sub (nm 1) (ve_mul (nm 2) (ve_ix ix_seq ok_ix (nm 0) ve_int (fun _ _ => rfl)))) (ve_ix ix_seq ok_ix (nm 0) ve_int (fun _ _ => rfl))) ve_int (nomark _)) (vss_one (vs_ret (ve_tup (va_cons (nm 2) (va_cons (ve_div (ve_sub (nm 1) (ve_mul (nm 2) (ve_ix ix_seq ok_ix (nm 0) ve_int (fun _ _ => rfl)))) (ve_ix ix_seq ok_ix (nm 0) ve_int (fun _ _ => rfl))) va_nil))))) vss_nil)) (by decide))
      (vss_one (vs_ret ve_non)))) rfl ?_
  intro ds C hl h
  obtain ⟨a, b, s, rfl, ha, hb, hab, hb2, hs, hs2, k1, k2⟩ := h
  have ha2 : a ≤ 2 ^ 60 := Int.le_trans (Int.le_of_dvd (by omega) hab) hb2
  have hq : s / a ≤ 300 := Int.le_trans (Int.ediv_le_self _ (by omega)) hs2
  have hq0 : 0 ≤ s / a := Int.ediv_nonneg (by omega) (by omega)
  walk_at "w"
  refine ForP.mk ⟨fun j env => ∃ d, env = [.tup [.int a, .int b], .int s, d] ∧ ∀ i : Nat, i < j → ¬ b ∣ s - i * a, ⟨_, rfl, fun i hi => absurd hi (Nat.not_lt_zero _)⟩, ?_, ?_⟩
  · rintro j d env hj ⟨d', rfl, hno⟩
    obtain ⟨hj1, rfl⟩ := rngD_get hj
    have hj2 : (j : Int) ≤ s / a := by split at hj1 <;> omega
    walk_at "w"
    refine if_dec (fun h0 => ?_) (fun h0 => ?_)
    · have hd : b ∣ s - (0 + (j : Int)) * a := Int.dvd_of_emod_eq_zero h0
      have has : a ∣ s := by
        have h1 := Int.dvd_trans hab hd
        have h2 := Int.dvd_add h1 (Int.dvd_mul_left (0 + (j : Int)) a)
        rwa [Int.sub_add_cancel] at h2
      walk_at "w"
      exact k1 has _ _
    · walk_at "w"
      refine ⟨_, rfl, fun i hi => ?_⟩
      by_cases e : i = j
      · subst e
        intro hd
        rw [show (i : Int) = 0 + (i : Int) by omega] at hd
        exact h0 (Int.emod_eq_zero_of_dvd hd)
      · exact hno i (by omega)
  · rintro env ⟨d, rfl, hno⟩
    walk_at "w"
    refine k2 fun has => ?_
    obtain ⟨t, rfl⟩ := has
    obtain ⟨k, rfl⟩ := hab
    have ht : 0 ≤ t := by
      rcases Int.lt_or_le t 0 with h | h
      · have := Int.mul_neg_of_pos_of_neg (show (0 : Int) < a by omega) h; omega
      · exact h
    have hk : 0 < k := by
      rcases Int.lt_or_le 0 k with h | h
      · exact h
      · have := Int.mul_nonpos_of_nonneg_of_nonpos (show (0 : Int) ≤ a by omega) h; omega
    have h1 := Int.emod_nonneg t (show k ≠ 0 by omega)
    have h2 := Int.emod_lt_of_pos t hk
    have e := Int.mul_ediv_add_emod t k
    have h0 : 0 ≤ k * (t / k) := Int.mul_nonneg (by omega) (Int.ediv_nonneg ht (by omega))
    have h3 : t % k ≤ t := by omega
    have h4 : a * t / a = t := Int.mul_ediv_cancel_left _ (by omega)
    have h5 : k ≤ a * k := by
      have := Int.mul_le_mul_of_nonneg_right ha (show (0 : Int) ≤ k by omega)
      omega
    refine hno (t % k).toNat ?_ ?_
    · simp only [rngD, List.length_map, List.length_range]
      rw [h4]
      split <;> omega
    · rw [Int.toNat_of_nonneg h1, show a * t - t % k * a = (a * k) * (t / k) by
        have e2 : t - t % k = k * (t / k) := by omega
        rw [Int.mul_comm (t % k) a, ← Int.mul_sub, e2, Int.mul_assoc]]
      exact Int.dvd_mul_right _ _
def fillD (a b m n : Int) : Bool := ((decide (m % a = 0) || decide (n % a = 0)) && (decide (m % b = 0) || decide (n % b = 0))) && (decide (m % a = 0) && decide (n % a = 0))
def sp_does_fill_there : SpV := fun ds C => ∃ a b m n : Int, ds = [.tup [.int a, .int b], .tup [.int m, .int n]] ∧ 1 ≤ a ∧ 1 ≤ b ∧ a ∣ b ∧ b ≤ 2 ^ 60 ∧ 1 ≤ m ∧ m ≤ 300 ∧ 1 ≤ n ∧ n ≤ 300 ∧ C (.bl (fillD a b m n)) ds
theorem fn_does_fill_there {P : Program} {w : World} {K : PySem.W.Frag} {mg : Str → Option Value} {base : Heap} {f : Addr} {fd : FuncData} (hD : DefAt K mg "does_fill_there" s_does_fill_there [] f fd) (T : Blt mg) (c_sum_there : CallOk P w K mg base "sum_there" 1 ["brick", "side"] sp_sum_there) : FnV P w K mg base 2 f fd ["brick", "floor"] sp_does_fill_there := by
  refine fnv_okJ (k := 1) hD.fn sc_does_fill_there [0, 1] [.junk] _ (fun cdv A outer s H E hr => (vss_cons (vs_if (vt_not (vt_tru (ve_callB (cr_all rfl) ok_all (by rfl) T.all bt_all (va_cons (ve_lcX rfl sc_does_fill_there.nd (vi_any (nm 0)) (blkOk_by (own := [("side", 2)]) (N := N_does_fill_there) (show blkC N_does_fill_there (defScope s_does_fill_there) _ [("side", 2)] = true from by decide +kernel)) (fun _ _ _ _ _ => ⟨_, (tg 2 sc_does_fill_there.nd)⟩) (fun _ _ _ _ _ => ⟨_, vts_nil⟩) (fun _ _ _ _ _ => ⟨_, (ve_or (ve_cmp (op_eqV hr.hu) ok_eq (ve_mod (ve_ix ix_seq ok_ix (nm 1) ve_int (fun _ _ => rfl)) (nm 2)) ve_int (nomark _)) (ve_one (ve_cmp (op_eqV hr.hu) ok_eq (ve_mod (ve_ix ix_seq ok_ix (nm 1) ve_int (fun _ _ => rfl)) (nm 2)) ve_int (nomark _))))⟩)) va_nil)))) (vss_one (vs_ret ve_bl)) vss_nil)
      (vss_one (vs_ret (ve_callB (cr_all rfl) ok_all (by rfl) T.all bt_all (va_cons (ve_lcX rfl sc_does_fill_there.nd (vi_any (nm 1)) (blkOk_by (own := [("side", 2)]) (N := N_does_fill_there) (show blkC N_does_fill_there (defScope s_does_fill_there) _ [("side", 2)] = true from by decide +kernel)) (fun _ _ _ _ _ => ⟨_, (tg 2 sc_does_fill_there.nd)⟩) (fun _ _ _ _ _ => ⟨_, vts_nil⟩) (fun _ _ _ _ _ => ⟨_, (ve_cmp op_notV ok_notN (call c_sum_there (hr.mono (j := 1) (by decide)) (vm_val (nm 0) (vm_val (nm 2) vm_nil))) ve_non (nomark _))⟩)) va_nil)))))) rfl ?_
  intro ds C hl h
  obtain ⟨a, b, m, n, rfl, ha, hb, hab, hb2, hm, hm2, hn, hn2, k⟩ := h
  walk_at "w"
  refine LcP.map1 (fun d => match d with | .int s => .bl (decide (m % s = 0) || decide (n % s = 0)) | _ => .junk) (by simp) (fun d hd J acc ha' hJ => ?_) ?_
  · have hs : ∃ s, d = .int s ∧ 0 < s := by
      have hd : d = .int a ∨ d = .int b := by simpa using hd
      rcases hd with rfl | rfl
      · exact ⟨a, rfl, by omega⟩
      · exact ⟨b, rfl, by omega⟩
    obtain ⟨s, rfl, hs⟩ := hs
    walk_at "w"
    refine if_dec (fun h0 => ?_) (fun h0 => ?_)
    · simp only [h0, decide_true, Bool.true_or] at hJ
      walk_at "w"
      exact hJ
    · simp only [h0, decide_false, Bool.false_or] at hJ
      walk_at "w"
      exact hJ
  · walk_at "w"
    refine if_bl (fun h0 => ?_) (fun h0 => ?_)
    · walk_at "w"
      have e : fillD a b m n = false := by
        simp only [fillD]
        simp only [List.all_cons, List.all_nil, id, Bool.and_true, Bool.not_eq_true'] at h0
        rw [h0]; rfl
      rw [e] at k
      exact k
    · walk_at "w"
      refine LcP.map1 (fun d => match d with | .int s => .bl (decide (s % a = 0)) | _ => .junk) (by simp) (fun d hd J acc ha' hJ => ?_) ?_
      · have hs : ∃ s, d = .int s ∧ 1 ≤ s ∧ s ≤ 300 := by
          have hd : d = .int m ∨ d = .int n := by simpa using hd
          rcases hd with rfl | rfl
          · exact ⟨m, rfl, hm, hm2⟩
          · exact ⟨n, rfl, hn, hn2⟩
        obtain ⟨s, rfl, hs, hs2⟩ := hs
        walk_at "w"
        refine ⟨a, b, s, rfl, ha, hb, hab, hb2, hs, hs2, fun h0 x y => ?_, fun h0 => ?_⟩
        · have h1 := Int.emod_eq_zero_of_dvd h0
          simp only [h1, decide_true] at hJ
          walk_at "w"
          exact hJ
        · have h1 : ¬ s % a = 0 := fun h => h0 (Int.dvd_of_emod_eq_zero h)
          simp only [h1, decide_false] at hJ
          walk_at "w"
          exact hJ
      · walk_at "w"
        have e : fillD a b m n = (decide (m % a = 0) && decide (n % a = 0)) := by
          simp only [fillD]
          simp only [List.all_cons, List.all_nil, id, Bool.and_true, Bool.not_eq_false'] at h0
          rw [h0]; rfl
        rw [e] at k
        have q : ∀ x y : Bool, [x, y].all id = (x && y) := by decide
        rw [q]
        exact k
def sp_does_fill : SpV := sp_does_fill_there
theorem fn_does_fill {P : Program} {w : World} {K : PySem.W.Frag} {mg : Str → Option Value} {base : Heap} {f : Addr} {fd : FuncData} (hD : DefAt K mg "does_fill" s_does_fill [] f fd) (T : Blt mg) (c_check_brick : CallOk P w K mg base "check_brick" 5 ["brick", "floor"] sp_check_brick) (c_does_fill_there : CallOk P w K mg base "does_fill_there" 2 ["brick", "floor"] sp_does_fill_there) : FnV P w K mg base 6 f fd ["brick", "floor"] sp_does_fill := by
  refine fnv_okJ (k := 5) hD.fn sc_does_fill [0, 1] [] _ (fun cdv A outer s H E hr => (vss_cons (vs_expr (call c_check_brick (hr.mono (j := 5) (by decide)) (vm_val (nm 0) (vm_val (nm 1) vm_nil))))
      (vss_one (vs_ret (call c_does_fill_there (hr.mono (j := 2) (by decide)) (vm_val (nm 0) (vm_val (nm 1) vm_nil))))))) rfl ?_
  intro ds C hl h
  obtain ⟨a, b, m, n, rfl, ha, hb, hab, hb2, hm, hm2, hn, hn2, k⟩ := h
  walk_at "w"
  refine ⟨a, b, m, n, rfl, ha, hb, hm, hn, ?_⟩
  walk_at "w"
  refine ⟨a, b, m, n, rfl, ha, hb, hab, hb2, hm, hm2, hn, hn2, ?_⟩
  walk_at "w"
  exact k
end K59
namespace K59
open PySem PySem.Spec PyProof.Rows L2 StX RZ VL
local macro_rules | `(tactic| walk_at "b") => `(tactic| exact big_small (by omega) (by omega))
local macro_rules | `(tactic| walk_at "w1") => `(tactic| first | refine And.intro rfl ?_ | refine And.intro True.intro ?_ | refine And.intro (Nat.le_of_ble_eq_true rfl) ?_ | refine ex_some _ rfl ?_ | refine And.intro (by (try dsimp only); decide) ?_ | refine And.intro ⟨_, _, rfl⟩ ?_ | refine And.intro (And.intro (by decide) (by walk_at "b")) ?_ | refine And.intro (And.intro (by walk_at "b") (by walk_at "b")) ?_ | refine And.intro (by (try dsimp only); omega) ?_ | refine And.intro (And.intro (by omega) (by walk_at "b")) ?_ | refine if_yes (by assumption) ?_ | refine And.intro (by assumption) ?_)
local macro_rules | `(tactic| walk_at "w") => `(tactic| (repeat (conv => whnf
                                                                 walk_at "w1")) <;> (try (conv => whnf)))

/-! ### harmonic -/
def sidesD : D → Bool
  | .lst _ xs => !xs.isEmpty && xs.all sideD
  | _ => false
def chain : List Int → Bool
  | a :: b :: r => decide (b % a = 0) && chain (b :: r)
  | _ => true
def harmD : D → Bool
  | .lst _ xs => sidesD (.lst false xs) && (match intsD xs with | some ns => chain ns | none => false)
  | _ => false
theorem sides_ints : ∀ xs : List D, xs.all sideD = true → ∃ ns : List Int, xs = is ns ∧ ∀ n ∈ ns, 1 ≤ n
  | [], _ => ⟨[], rfl, fun _ h => by cases h⟩
  | x :: xs, h => by
    simp only [List.all_cons, Bool.and_eq_true] at h
    obtain ⟨ns, rfl, h2⟩ := sides_ints xs h.2
    cases x with
    | int i => exact ⟨i :: ns, rfl, fun n hn => (List.mem_cons.mp hn).elim (fun e => by rw [e]; simpa [sideD] using h.1) (h2 n)⟩
    | _ => exact absurd h.1 (by simp [sideD])
def sp_are_sides : SpV := fun ds C => ∃ d, ds = [d] ∧ okD 55 d ∧ lenA d = true ∧ C (.bl (sidesD d)) [d]
theorem fn_are_sides {P : Program} {w : World} {K : PySem.W.Frag} {mg : Str → Option Value} {base : Heap} {f : Addr} {fd : FuncData} (hD : DefAt K mg "are_sides" s_are_sides [] f fd) (T : Blt mg) (c_is_count : CallOk P w K mg base "is_count" 2 ["value", "least"] sp_is_count) : FnV P w K mg base 3 f fd ["value"] sp_are_sides := by
  refine fnv_okJ (k := 2) hD.fn sc_are_sides [0] [.junk] _ (fun cdv A outer s H E hr => (vss_one (vs_ret (ve_and (ve_isi T.isinstance (by rfl) (nm 0) (pe_bltn (v := .ty "list") (by rfl) T.list bt_list rfl)) (ve_and (ve_cmp (op_neV hr.hu) ok_ne (nm 0) (ve_lst va_nil) (nomark _)) (ve_one (ve_callB (cr_all rfl) ok_all (by rfl) T.all bt_all (va_cons (ve_lcX rfl sc_are_sides.nd (vi_any (nm 0)) (blkOk_by (own := [("side", 1)]) (N := N_are_sides) (show blkC N_are_sides (defScope s_are_sides) _ [("side", 1)] = true from by decide +kernel)) (fun _ _ _ _ _ => ⟨_, (tg 1 sc_are_sides.nd)⟩) (fun _ _ _ _ _ => ⟨_, vts_nil⟩) (fun _ _ _ _ _ => ⟨_, (call c_is_count (hr.mono (j := 2) (by decide)) (vm_val (nm 1) (vm_val ve_int vm_nil)))⟩)) va_nil)))))))) rfl ?_
  intro ds C hl h
  obtain ⟨d, rfl, ⟨hd, hs⟩, hlen, k⟩ := h
  cases d with
  | lst o xs =>
    cases o with
    | true => cases hd
    | false =>
      have hlen' : xs.length ≤ 16777215 ∧ lenAL xs = true := by simpa [lenA] using hlen
      walk_at "w"
      refine ⟨⟨shp_up _ _ _ (by decide) hs, rfl⟩, ?_⟩
      walk_at "w"
      refine if_bl (fun h0 => ?_) (fun h0 => ?_)
      · have h0 : xs.isEmpty = false := by simpa [eqD_nil] using h0
        walk_at "w"
        refine LcP.map1 (fun d => .bl (sideD d)) (by omega) (fun d hd' J acc ha' hJ => ?_) ?_
        · have f1 := fzAL_mem hd hd'
          have f2 := fz_fzA _ f1
          have f3 := real_fzA f1
          walk_at "w"
          refine ⟨d, rfl, ⟨f1, shp_up _ _ _ (by decide) (shpL_mem hs hd')⟩, ?_⟩
          walk_at "w"
          exact hJ
        · walk_at "w"
          refine ex_some _ (bls_map sideD _) ?_
          walk_at "w"
          rw [show sidesD (.lst false xs) = (List.map sideD xs).all id by simp [sidesD, h0, List.all_map]] at k
          exact k
      · have h0 : xs.isEmpty = true := by simpa [eqD_nil] using h0
        rw [show sidesD (.lst false xs) = false by simp [sidesD, h0]] at k
        walk_at "w"
        exact k
  | tup xs =>
    have h1 : isFz (.tup xs) = true := fz_fzA _ hd
    refine ⟨by simp [fxOk], ?_⟩
    have e : outs 0 [D.tup xs] = fun _ => [D.tup xs] := by funext e; simp [outs, h1]
    rw [e]
    walk_at "w"
    exact k
  | dic o ks xs => cases hs
  | hnd o => cases hd
  | junk => cases hd
  | nod o => cases hs
  | ndt o => cases hs
  | scr o => cases hs
  | _ => walk_at "w"; exact k
theorem chain_zip : ∀ ns : List Int, ((zipD (is ns) (is (ns.drop 1))).map (fun d => match d with | .tup [.int a, .int b] => decide (b % a = 0) | _ => false)).all id = chain ns
  | [] => rfl
  | [a] => rfl
  | a :: b :: r => by
    have ih := chain_zip (b :: r)
    simp only [List.drop_succ_cons, List.drop_zero] at ih ⊢
    simp only [is, List.map_cons, zipD, List.zipWith_cons_cons, List.all_cons, id, chain] at ih ⊢
    rw [← ih]
theorem zip_is_mem : ∀ {a b : List Int} {d : D}, d ∈ zipD (is a) (is b) → ∃ x y, d = .tup [.int x, .int y] ∧ x ∈ a ∧ y ∈ b
  | [], _, d, h => by cases h
  | _ :: _, [], d, h => by cases h
  | x :: a, y :: b, d, h => by
    have h : d = .tup [.int x, .int y] ∨ d ∈ zipD (is a) (is b) := by simpa [zipD] using h
    rcases h with rfl | h
    · exact ⟨x, y, rfl, List.mem_cons_self, List.mem_cons_self⟩
    · obtain ⟨x', y', e, h1, h2⟩ := zip_is_mem h
      exact ⟨x', y', e, List.mem_cons_of_mem _ h1, List.mem_cons_of_mem _ h2⟩
theorem ints_is (ns : List Int) : intsD (is ns) = some ns := ints_map ns
def sp_is_harmonic : SpV := fun ds C => ∃ d, ds = [d] ∧ okD 55 d ∧ lenA d = true ∧ C (.bl (harmD d)) [d]
theorem fn_is_harmonic {P : Program} {w : World} {K : PySem.W.Frag} {mg : Str → Option Value} {base : Heap} {f : Addr} {fd : FuncData} (hD : DefAt K mg "is_harmonic" s_is_harmonic [] f fd) (T : Blt mg) (c_are_sides : CallOk P w K mg base "are_sides" 3 ["value"] sp_are_sides) : FnV P w K mg base 4 f fd ["value"] sp_is_harmonic := by
  refine fnv_okJ (k := 3) hD.fn sc_is_harmonic [0] [.junk, .junk] _ (fun cdv A outer s H E hr => (vss_one (vs_ret (ve_and (call c_are_sides (hr.mono (j := 3) (by decide)) (vm_val (nm 0) vm_nil)) (ve_one (ve_callB (cr_all rfl) ok_all (by rfl) T.all bt_all (va_cons (ve_lcX rfl sc_is_harmonic.nd (vi_zip (by rfl) T.zip (va_cons (nm 0) (va_cons (ve_slice (nm 0) (vo_some ve_int) vo_none) va_nil))) (blkOk_by (own := [("one", 1), ("late", 2)]) (N := N_is_harmonic) (show blkC N_is_harmonic (defScope s_is_harmonic) _ [("one", 1), ("late", 2)] = true from by decide +kernel)) (fun _ _ _ _ _ => ⟨_, (vg_tup (n := 2) rfl (vgs_cons (tg 1 sc_is_harmonic.nd) (vgs_cons (tg 2 sc_is_harmonic.nd) vgs_nil)))⟩) (fun _ _ _ _ _ => ⟨_, vts_nil⟩) (fun _ _ _ _ _ => ⟨_, (ve_cmp (op_eqV hr.hu) ok_eq (ve_mod (nm 2) (nm 1)) ve_int (nomark _))⟩)) va_nil))))))) rfl ?_
  intro ds C hl h
  obtain ⟨d, rfl, ⟨hd, hs⟩, hlen, k⟩ := h
  have h1 : isFz d = true := fz_fzA _ hd
  have h2 := real_fzA hd
  have e : outs 0 [d] = fun _ => [d] := by funext e; simp [outs, h1]
  refine ⟨by simp [fxOk, h1], ?_⟩
  rw [e]
  walk_at "w"
  refine ⟨d, rfl, ⟨hd, hs⟩, hlen, ?_⟩
  walk_at "w"
  refine if_bl (fun h0 => ?_) (fun h0 => ?_)
  · cases d with
    | lst o xs =>
      obtain ⟨ns, rfl, hns⟩ := sides_ints xs (by simp only [sidesD, Bool.and_eq_true] at h0; exact h0.2)
      cases o with
      | true => cases hd
      | false =>
      have hlen' : (is ns).length ≤ 16777215 ∧ lenAL (is ns) = true := by simpa [lenA] using hlen
      walk_at "w"
      rw [cutD_1, ← List.map_drop]
      refine LcP.map1 (fun d => .bl (match d with | .tup [.int a, .int b] => decide (b % a = 0) | _ => false)) (by simp [zipD] at *; omega) (fun d hd' J acc ha' hJ => ?_) ?_
      · obtain ⟨x, y, rfl, hx, hy⟩ := zip_is_mem hd'
        have hx1 := hns x hx
        walk_at "w"
        exact hJ
      · walk_at "w"
        refine ex_some _ (bls_map _ _) ?_
        walk_at "w"
        rw [chain_zip]
        rw [show harmD (.lst false (is ns)) = chain ns by simp only [harmD, h0, ints_is, Bool.true_and]] at k
        exact k
    | _ => exact absurd h0 (by simp [sidesD])
  · have e : harmD d = sidesD d := by
      cases d with
      | lst o xs => simp only [harmD]; rw [show sidesD (.lst false xs) = sidesD (.lst o xs) from rfl, h0]; rfl
      | _ => rfl
    rw [e, h0] at k
    exact k
def sp__law_is_count : SpV := fun ds C => ∃ d, ds = [d] ∧ okD 55 d ∧ C (.bl (match d with | .int i => decide (0 ≤ i) | _ => false)) [d]
theorem fn__law_is_count {P : Program} {w : World} {K : PySem.W.Frag} {mg : Str → Option Value} {base : Heap} {f : Addr} {fd : FuncData} (hD : DefAt K mg "_law_is_count" s__law_is_count [] f fd) (T : Blt mg)  : FnV P w K mg base 1 f fd ["value"] sp__law_is_count := by
  refine fnv_okJ (k := 0) hD.fn sc__law_is_count [0] [] _ (fun cdv A outer s H E hr => (vss_one (vs_ret (ve_and (ve_isi T.isinstance (by rfl) (nm 0) (pe_bltn (v := .ty "int") (by rfl) T.int bt_int rfl)) (ve_and (ve_not (ve_isi T.isinstance (by rfl) (nm 0) (pe_bltn (v := .ty "bool") (by rfl) T.bool bt_bool rfl))) (ve_one (ve_cmp op_ge ok_ge (nm 0) ve_int (nomark _)))))))) rfl ?_
  intro ds C hl h
  obtain ⟨d, rfl, ⟨hd, hs⟩, k⟩ := h
  cases d with
  | lst o xs =>
    cases o with
    | true => cases hd
    | false => walk_at "w"; exact k
  | tup xs =>
    have h1 : isFz (.tup xs) = true := fz_fzA _ hd
    refine ⟨by simp [fxOk], ?_⟩
    have e : outs 0 [D.tup xs] = fun _ => [D.tup xs] := by funext e; simp [outs, h1]
    rw [e]
    walk_at "w"
    exact k
  | dic o ks xs => cases hs
  | hnd o => cases hd
  | junk => cases hd
  | nod o => cases hs
  | ndt o => cases hs
  | scr o => cases hs
  | _ => walk_at "w"; exact k
theorem not_sides : ∀ xs : List D, (xs.filter fun d => !sideD d).isEmpty = xs.all sideD
  | [] => rfl
  | x :: xs => by
    have ih := not_sides xs
    cases h : sideD x <;> simp_all [List.filter_cons]
theorem chain_not : ∀ ns : List Int, ((zipD (is ns) (is (ns.drop 1))).filter (fun d => match d with | .tup [.int a, .int b] => !decide (b % a = 0) | _ => true)).isEmpty = chain ns
  | [] => rfl
  | [a] => rfl
  | a :: b :: r => by
    have ih := chain_not (b :: r)
    simp only [List.drop_succ_cons, List.drop_zero] at ih ⊢
    simp only [is, List.map_cons, zipD, List.zipWith_cons_cons, chain] at ih ⊢
    rw [← ih]
    by_cases h : b % a = 0 <;> simp [List.filter_cons, h]
def sp__law_is_harmonic : SpV := fun ds C => ∃ d, ds = [d] ∧ okD 55 d ∧ lenA d = true ∧ C (.bl (harmD d)) [d]
theorem fn__law_is_harmonic {P : Program} {w : World} {K : PySem.W.Frag} {mg : Str → Option Value} {base : Heap} {f : Addr} {fd : FuncData} (hD : DefAt K mg "_law_is_harmonic" s__law_is_harmonic [] f fd) (T : Blt mg) (c__law_is_count : CallOk P w K mg base "_law_is_count" 1 ["value"] sp__law_is_count) : FnV P w K mg base 2 f fd ["value"] sp__law_is_harmonic := by
  refine fnv_okJ (k := 1) hD.fn sc__law_is_harmonic [0] [.junk, .junk, .junk] _ (fun cdv A outer s H E hr => (vss_cons (vs_if (vw_or (vt_not (vt_tru (ve_isi T.isinstance (by rfl) (nm 0) (pe_bltn (v := .ty "list") (by rfl) T.list bt_list rfl)))) (vw_or (vt_cmp (op_eqV hr.hu) ok_eq (nm 0) (ve_lst va_nil) (nomark _)) (vw_or1 (vt_cmp (op_neV hr.hu) ok_ne (ve_lcX rfl sc__law_is_harmonic.nd (vi_any (nm 0)) (blkOk_by (own := [("side", 3)]) (N := N__law_is_harmonic) (show blkC N__law_is_harmonic (defScope s__law_is_harmonic) _ [("side", 3)] = true from by decide +kernel)) (fun _ _ _ _ _ => ⟨_, (tg 3 sc__law_is_harmonic.nd)⟩) (fun _ _ _ _ _ => ⟨_, (vts_one (vw_or (vt_not (vt_tru (call c__law_is_count (hr.mono (j := 1) (by decide)) (vm_val (nm 3) vm_nil)))) (vw_or1 (vt_cmp (op_eqV hr.hu) ok_eq (nm 3) ve_int (nomark _)))).vt)⟩) (fun _ _ _ _ _ => ⟨_, (nm 3)⟩)) (ve_lst va_nil) (nomark _))))).vt (vss_one (vs_ret ve_bl)) vss_nil)
      (vss_one (vs_ret (ve_cmp (op_eqV hr.hu) ok_eq (ve_lcX rfl sc__law_is_harmonic.nd (vi_zip (by rfl) T.zip (va_cons (nm 0) (va_cons (ve_slice (nm 0) (vo_some ve_int) vo_none) va_nil))) (blkOk_by (own := [("one", 1), ("other", 2)]) (N := N__law_is_harmonic) (show blkC N__law_is_harmonic (defScope s__law_is_harmonic) _ [("one", 1), ("other", 2)] = true from by decide +kernel)) (fun _ _ _ _ _ => ⟨_, (vg_tup (n := 2) rfl (vgs_cons (tg 1 sc__law_is_harmonic.nd) (vgs_cons (tg 2 sc__law_is_harmonic.nd) vgs_nil)))⟩) (fun _ _ _ _ _ => ⟨_, (vts_one (vt_cmp (op_neV hr.hu) ok_ne (ve_mod (ve_callTy call_intV ok_int (by rfl) T.int bt_int (va_cons (nm 2) va_nil)) (nm 1)) ve_int (nomark _)))⟩) (fun _ _ _ _ _ => ⟨_, ve_int⟩)) (ve_lst va_nil) (nomark _)))))) rfl ?_
  intro ds C hl h
  obtain ⟨d, rfl, ⟨hd, hs⟩, hlen, k⟩ := h
  have h1 : isFz d = true := fz_fzA _ hd
  cases d with
  | lst o xs =>
    cases o with
    | true => cases hd
    | false =>
      have hlen' : xs.length ≤ 16777215 ∧ lenAL xs = true := by simpa [lenA] using hlen
      walk_at "w"
      refine ⟨⟨shp_up _ _ _ (by decide) hs, rfl⟩, ?_⟩
      walk_at "w"
      refine if_bl (fun h0 => ?_) (fun h0 => ?_)
      · rw [eqD_nil] at h0
        walk_at "w"
        rw [show harmD (.lst false xs) = false by simp [harmD, sidesD, h0]] at k
        exact k
      · rw [eqD_nil] at h0
        walk_at "w"
        refine LcP.map (fun d => !sideD d) (fun d => d) (by omega) (fun d hd' J acc ha' hJ1 hJ2 => ?_) ?_
        · have f1 := fzAL_mem hd hd'
          have f2 := fz_fzA _ f1
          have f3 := real_fzA f1
          have f4 : okD 55 d := ⟨f1, shp_up _ _ _ (by decide) (shpL_mem hs hd')⟩
          walk_at "w"
          refine ⟨d, rfl, f4, ?_⟩
          cases d with
          | int i =>
            walk_at "w"
            refine if_bl (fun h2 => ?_) (fun h2 => ?_)
            · have h2 : ¬ 0 ≤ i := by simpa using h2
              walk_at "w"
              exact hJ1 (by simp [sideD]; omega)
            · have h2 : 0 ≤ i := by simpa using h2
              walk_at "w"
              refine if_dec (fun h3 => ?_) (fun h3 => ?_)
              · walk_at "w"
                exact hJ1 (by simp [sideD]; omega)
              · walk_at "w"
                exact hJ2 (by simp [sideD]; omega)
          | hnd o => cases f1
          | _ =>
            walk_at "w"
            exact hJ1 rfl
        · have hq : shp (.lst true ((xs.filter fun d => !sideD d).map fun d => d)) 60 = true := by
            show shpL _ 59 = true
            rw [List.map_id', shpL_all, List.all_eq_true]
            exact fun d hd' => shp_up _ _ _ (by decide) (shpL_mem hs (List.mem_filter.mp hd').1)
          walk_at "w"
          refine ⟨⟨hq, rfl⟩, ?_⟩
          walk_at "w"
          have e : eqD (.lst true ((xs.filter fun d => !sideD d).map fun d => d)) (.lst true []) = xs.all sideD := by
            rw [eqD_nil, List.map_id', not_sides]
          refine if_bl (fun h2 => ?_) (fun h2 => ?_)
          · rw [e] at h2
            walk_at "w"
            have h4 : xs.all sideD = false := by
              cases hh : xs.all sideD with
              | true => rw [hh] at h2; cases h2
              | false => rfl
            rw [show harmD (.lst false xs) = false by simp only [harmD, sidesD, h4, Bool.and_false, Bool.false_and]] at k
            exact k
          · rw [e] at h2
            have h3 : xs.all sideD = true := by simpa using h2
            obtain ⟨ns, rfl, hns⟩ := sides_ints xs h3
            walk_at "w"
            rw [cutD_1, ← List.map_drop]
            refine LcP.map (fun d => match d with | .tup [.int a, .int b] => !decide (b % a = 0) | _ => true) (fun _ => .int 1) (by simp [zipD] at *; omega) (fun d hd' J acc ha' hJ1 hJ2 => ?_) ?_
            · obtain ⟨x, y, rfl, hx, hy⟩ := zip_is_mem hd'
              have hx1 := hns x hx
              walk_at "w"
              refine if_bl (fun h4 => ?_) (fun h4 => ?_)
              · walk_at "w"
                exact hJ1 h4
              · walk_at "w"
                exact hJ2 h4
            · have hq2 : ∀ l : List D, shp (.lst true (l.map fun _ => D.int 1)) 60 = true := fun l => by
                show shpL _ 59 = true
                rw [shpL_all]; simp [shp]
              walk_at "w"
              refine ⟨⟨hq2 _, rfl⟩, ?_⟩
              walk_at "w"
              rw [eqD_nil, List.isEmpty_map, chain_not]
              rw [show harmD (.lst false (is ns)) = chain ns by simp only [harmD, sidesD, h0, h3, ints_is]; rfl] at k
              exact k
  | tup xs =>
    refine ⟨by simp [fxOk], ?_⟩
    have e : outs 0 [D.tup xs] = fun _ => [D.tup xs] := by funext e; simp [outs, h1]
    rw [e]
    walk_at "w"
    exact k
  | dic o ks xs => cases hs
  | hnd o => cases hd
  | junk => cases hd
  | nod o => cases hs
  | ndt o => cases hs
  | scr o => cases hs
  | _ => walk_at "w"; exact k
end K59
namespace K59
open PySem PySem.Spec PyProof.Rows L2 StX RZ VL
local macro_rules | `(tactic| walk_at "b") => `(tactic| exact big_small (by omega) (by omega))
local macro_rules | `(tactic| walk_at "w1") => `(tactic| first | refine And.intro rfl ?_ | refine And.intro True.intro ?_ | refine And.intro (Nat.le_of_ble_eq_true rfl) ?_ | refine ex_some _ rfl ?_ | refine And.intro (by (try dsimp only); decide) ?_ | refine And.intro ⟨_, _, rfl⟩ ?_ | refine And.intro (And.intro (by decide) (by walk_at "b")) ?_ | refine And.intro (And.intro (by walk_at "b") (by walk_at "b")) ?_ | refine And.intro (by (try dsimp only); omega) ?_ | refine And.intro (And.intro (by omega) (by walk_at "b")) ?_ | refine if_yes (by assumption) ?_ | refine And.intro (by assumption) ?_)
local macro_rules | `(tactic| walk_at "w") => `(tactic| (repeat (conv => whnf
                                                                 walk_at "w1")) <;> (try (conv => whnf)))

/-! ### the search for directions -/
/-- natural numbers as values -/
abbrev nsD (l : List Nat) : List D := l.map fun (k : Nat) => D.int (k : Int)
theorem shpL_ns (l : List Nat) (n : Nat) : shpL (nsD l) n = true := by rw [shpL_all]; simp [shp]
theorem fzAL_ns (l : List Nat) : fzAL (nsD l) = true := by rw [fzAL_all]; simp [fzA]
theorem isFzL_ns (l : List Nat) : isFzL (nsD l) = true := fzL_fzA _ (fzAL_ns l)
theorem frzL_ns (l : List Nat) : frzL (nsD l) = nsD l := frzL_fzA _ (fzAL_ns l)
theorem allOwnL_ns (l : List Nat) : allOwnL (nsD l) = true := by rw [allOwnL_all]; simp [allOwn]
/-- may side i of the brick lie along side at of the chest -/
def okAt (brick chest : List Int) (i k : Nat) : Bool := decide (chest.getD k 0 % brick.getD i 1 = 0)
/-- what may come behind the spots p -/
def kids (n : Nat) (ok : Nat → Nat → Bool) (p : List Nat) : List Nat := (List.range n).filter fun k => !p.contains k && ok p.length k
/-- the search below p, r more to choose -/
def dfs (n : Nat) (ok : Nat → Nat → Bool) : Nat → List Nat → Option (List Nat)
  | 0, p => some p
  | r + 1, p => (kids n ok p).findSome? fun k => dfs n ok r (p ++ [k])
def dirs (brick chest : List Int) : Option (List Nat) := dfs brick.length (okAt brick chest) brick.length []
def dirD (brick chest : List Int) : D := match dirs brick chest with
  | some p => .lst true (nsD p)
  | none => .non
theorem inV_ns (k : Nat) (p : List Nat) : inV (toV (.int (k : Int))) ((nsD p).map toV) = p.contains k := by
  unfold inV
  induction p with
  | nil => rfl
  | cons x p ih =>
    show ((toV (.int (x : Int)) :: List.map toV (nsD p)).any fun y => eqV y (toV (.int (k : Int)))) = _
    rw [List.any_cons, ih, List.contains_cons]
    congr 1
    show eqV (V.int (x : Int)) (V.int (k : Int)) = (k == x)
    by_cases h : k = x
    · subst h; simp [eqV]
    · have h2 : ¬ ((x : Int) = (k : Int)) := by omega
      rw [show (k == x) = false by simp [h]]
      simp [eqV, h2]
def onI (g : Int → Bool) : D → Bool
  | .int i => g i
  | _ => false
theorem rng_kids (n : Nat) (g : Nat → Bool) : ((rngD 0 n).filter (onI fun i => g i.toNat)) = nsD ((List.range n).filter g) := by
  unfold rngD nsD
  rw [List.filter_map]
  congr 1
  · funext k; rw [Int.zero_add]
  · congr 1
    funext k
    show g ((0 + (k : Int)).toNat) = g k
    rw [Int.zero_add, Int.toNat_natCast]
theorem find_kids (n : Nat) (ok : Nat → Nat → Bool) (r : Nat) (p : List Nat) (ks : List Nat) (todo : List (List Nat)) (hl : r + 1 + p.length = n) (hk : ks = kids n ok p) :
    (todo ++ ks.reverse.map fun k => p ++ [k]).reverse.findSome? (fun p => dfs n ok (n - p.length) p) = (todo ++ [p]).reverse.findSome? (fun p => dfs n ok (n - p.length) p) := by
  rw [List.reverse_append, List.reverse_append, List.findSome?_append, List.findSome?_append, ← List.map_reverse, List.reverse_reverse, List.findSome?_map]
  congr 1
  have e : ∀ o : Option (List Nat), (match o with | some x => some x | none => none) = o := fun o => by cases o <;> rfl
  have e2 : [p].reverse.findSome? (fun p => dfs n ok (n - p.length) p) = dfs n ok (n - p.length) p := by
    rw [show [p].reverse = [p] from rfl]
    simp only [List.findSome?]
    cases dfs n ok (n - p.length) p <;> rfl
  rw [e2, show n - p.length = r + 1 by omega]
  show _ = (kids n ok p).findSome? fun k => dfs n ok r (p ++ [k])
  rw [hk]
  congr 1
  funext k
  show dfs n ok (n - (p ++ [k]).length) (p ++ [k]) = _
  rw [show n - (p ++ [k]).length = r by simp; omega]
theorem sum_kids (r : Nat) (ks : List Nat) (p : List Nat) (n : Nat) (hl : r + 1 + p.length = n) (hk : ks.length ≤ 8) : ((ks.reverse.map fun k => p ++ [k]).map fun p => 10 ^ (n - p.length)).sum < 10 ^ (n - p.length) := by
  have e : ((ks.reverse.map fun k => p ++ [k]).map fun p => 10 ^ (n - p.length)) = List.replicate ks.length (10 ^ r) := by
    rw [List.map_map]
    rw [show ((fun p : List Nat => 10 ^ (n - p.length)) ∘ fun k => p ++ [k]) = fun _ => 10 ^ r by
      funext k
      show 10 ^ (n - (p ++ [k]).length) = 10 ^ r
      rw [show n - (p ++ [k]).length = r by simp; omega]]
    rw [List.map_const', List.length_reverse]
  rw [e, List.sum_replicate_nat, show n - p.length = r + 1 by omega, Nat.pow_succ]
  have : 0 < 10 ^ r := Nat.pow_pos (by decide)
  have := Nat.mul_le_mul_right (10 ^ r) hk
  omega
theorem len_sum : ∀ l : List Nat, (∀ x ∈ l, 1 ≤ x) → l.length ≤ l.sum
  | [], _ => Nat.le_refl _
  | x :: l, h => by
    have h1 := h x List.mem_cons_self
    have h2 := len_sum l fun y hy => h y (List.mem_cons_of_mem _ hy)
    simp only [List.length_cons, List.sum_cons]
    omega
/-- a brick and a chest for it -/
def Pair (brick chest : List Int) : Prop := brick ≠ [] ∧ (∀ b ∈ brick, 1 ≤ b) ∧ (∀ b ∈ chest, 1 ≤ b) ∧ chain brick = true ∧ chest.length = brick.length ∧ brick.length ≤ 7
def sp_check_harmonic : SpV := fun ds C => ∃ b c : List Int, ds = [.lst false (is b), .lst false (is c)] ∧ Pair b c ∧ C .non ds
theorem okD_is (l : List Int) : okD 55 (.lst false (is l)) := ⟨by simp [fzA, fzAL_is], shpL_is _ _⟩
theorem lenA_is {l : List Int} (h : l.length ≤ 100) : lenA (.lst false (is l)) = true := by
  simp only [lenA, lenAL_is, Bool.and_true]
  exact Nat.ble_eq.mpr (by rw [List.length_map]; omega)
theorem sidesD_is {l : List Int} (h : l ≠ []) (h1 : ∀ b ∈ l, 1 ≤ b) : sidesD (.lst false (is l)) = true := by
  cases l with
  | nil => exact absurd rfl h
  | cons x r => simp only [sidesD, List.all_map]; simp only [List.map_cons, List.isEmpty_cons, Bool.not_false, Bool.true_and, List.all_eq_true]; intro y hy; simpa [sideD] using h1 y hy
theorem fn_check_harmonic {P : Program} {w : World} {K : PySem.W.Frag} {mg : Str → Option Value} {base : Heap} {f : Addr} {fd : FuncData} (hD : DefAt K mg "check_harmonic" s_check_harmonic [] f fd) (T : Blt mg) (c_is_harmonic : CallOk P w K mg base "is_harmonic" 4 ["value"] sp_is_harmonic) (c_are_sides : CallOk P w K mg base "are_sides" 3 ["value"] sp_are_sides) : FnV P w K mg base 5 f fd ["brick", "chest"] sp_check_harmonic := by
  refine fnv_okJ (k := 4) hD.fn sc_check_harmonic [0, 1] [] _ (fun cdv A outer s H E hr => (vss_cons (vs_if (vt_not (vt_tru (call c_is_harmonic (hr.mono (j := 4) (by decide)) (vm_val (nm 0) vm_nil)))) (vss_one vs_never) vss_nil)
      (vss_one (vs_if (vw_or (vt_not (vt_tru (call c_are_sides (hr.mono (j := 3) (by decide)) (vm_val (nm 1) vm_nil)))) (vw_or1 (vt_cmp (op_neV hr.hu) ok_ne (ve_callB call_lenV ok_len (by rfl) T.len bt_len (va_cons (nm 1) va_nil)) (ve_callB call_lenV ok_len (by rfl) T.len bt_len (va_cons (nm 0) va_nil)) (nomark _)))).vt (vss_one vs_never) vss_nil)))) rfl ?_
  intro ds C hl h
  obtain ⟨b, c, rfl, ⟨hne, hb, hc, hch, hlen, h8⟩, k⟩ := h
  have hcne : c ≠ [] := by rintro rfl; exact hne (List.length_eq_zero_iff.mp hlen.symm)
  walk_at "w"
  refine ⟨_, rfl, okD_is b, lenA_is (by omega), ?_⟩
  rw [show harmD (.lst false (is b)) = true by simp only [harmD, sidesD_is hne hb, ints_is, hch, Bool.and_self]]
  walk_at "w"
  refine ⟨_, rfl, okD_is c, lenA_is (by omega), ?_⟩
  rw [sidesD_is hcne hc]
  walk_at "w"
  refine if_not (by simp [eqD, hlen]) ?_
  walk_at "w"
  exact k
def sp_directions_for : SpV := fun ds C => ∃ b c : List Int, ds = [.lst false (is b), .lst false (is c)] ∧ Pair b c ∧ C (dirD b c) ds
theorem fn_directions_for {P : Program} {w : World} {K : PySem.W.Frag} {mg : Str → Option Value} {base : Heap} {f : Addr} {fd : FuncData} (hD : DefAt K mg "directions_for" s_directions_for [] f fd) (T : Blt mg) (c_check_harmonic : CallOk P w K mg base "check_harmonic" 5 ["brick", "chest"] sp_check_harmonic) : FnV P w K mg base 6 f fd ["brick", "chest"] sp_directions_for := by
  refine fnv_okJ (k := 5) hD.fn sc_directions_for [0, 1] [.junk, .junk, .junk, .junk, .junk] _ (fun cdv A outer s H E hr => (vss_cons (vs_expr (call c_check_harmonic (hr.mono (j := 5) (by decide)) (vm_val (nm 0) (vm_val (nm 1) vm_nil))))
      (vss_cons (sset 2 sc_directions_for.nd (ve_lst (va_cons (ve_lst va_nil) va_nil)))
      (vss_cons (vs_while PassesOwn.never (vt_pure (vt_cmp (op_neV hr.hu) ok_ne (nm 2) (ve_lst va_nil) (nomark _))) (vss_cons (sset 3 sc_directions_for.nd (spop 2))
      (vss_cons (vs_if (vt_pure (vt_cmp (op_eqV hr.hu) ok_eq (ve_callB call_lenV ok_len (by rfl) T.len bt_len (va_cons (nm 3) va_nil)) (ve_callB call_lenV ok_len (by rfl) T.len bt_len (va_cons (nm 0) va_nil)) (nomark _))) (vss_one (vs_ret (mv 3))) vss_nil)
      (vss_cons (sset 4 sc_directions_for.nd (ve_pure (ve_ix ix_seq ok_ix (nm 0) (ve_callB call_lenV ok_len (by rfl) T.len bt_len (va_cons (nm 3) va_nil)) (fun _ _ => rfl))))
      (vss_cons (vs_setLcX (i := 5) rfl sc_directions_for.nd rfl rfl (sw_true rfl rfl rfl (by decide +kernel)) (vi_range1 (by rfl) T.range (va_cons (ve_callB call_lenV ok_len (by rfl) T.len bt_len (va_cons (nm 1) va_nil)) va_nil)) (blkOk_by (own := [("at", 6)]) (N := N_directions_for) (show blkC N_directions_for (defScope s_directions_for) _ [("at", 6)] = true from by decide +kernel)) (fun _ _ _ _ _ => ⟨_, (tg 6 sc_directions_for.nd)⟩) (fun _ _ _ _ _ => ⟨_, (vts_one (vt_pure (vw_and (vt_cmp op_notIn_seq (ok_in (neg := true)) (nm 6) (nm 3) (by rfl)) (vw_and1 (vt_cmp (op_eqV hr.hu) ok_eq (ve_mod (ve_ix ix_seq ok_ix (nm 1) (nm 6) (fun _ _ => rfl)) (nm 4)) ve_int (nomark _)))).vt))⟩) (fun _ _ _ _ _ => ⟨_, (nm 6)⟩) (by decide))
      (vss_one (vs_expr (ve_ext 2 (pv 2) (ve_lcX rfl sc_directions_for.nd (vi_any (ve_rev (nm 5))) (blkOk_by (own := [("at", 6)]) (N := N_directions_for) (show blkC N_directions_for (defScope s_directions_for) _ [("at", 6)] = true from by decide +kernel)) (fun _ _ _ _ _ => ⟨_, (tg 6 sc_directions_for.nd)⟩) (fun _ _ _ _ _ => ⟨_, vts_nil⟩) (fun _ _ _ _ _ => ⟨_, (ve_pure (ve_lst (va_star (nm 3) (va_cons (nm 6) va_nil))))⟩))))))))))
      (vss_one (vs_ret ve_non)))))) rfl ?_
  intro ds C hl h
  obtain ⟨b, c, rfl, hp, k⟩ := h
  walk_at "w"
  refine ⟨b, c, rfl, hp, ?_⟩
  obtain ⟨hne, hb, hc, hch, hlen, h8⟩ := hp
  walk_at "w"
  refine WhileP.mk ⟨fun m env => ∃ (todo : List (List Nat)) (x y z : D), env = [.lst false (is b), .lst false (is c), .lst true (todo.map fun p => .lst true (nsD p)), x, y, z, .junk] ∧
    (∀ p ∈ todo, p.length ≤ b.length) ∧ m = (todo.map fun p => 10 ^ (b.length - p.length)).sum ∧ m ≤ 10 ^ b.length ∧ todo.reverse.findSome? (fun p => dfs b.length (okAt b c) (b.length - p.length) p) = dirs b c, ?_, ?_⟩
  · exact ⟨_, [[]], _, _, _, rfl, by simp, rfl, by simp, by simp [dirs]⟩
  · rintro m env ⟨todo, x, y, z, rfl, hle, rfl, hmb, hfind⟩
    rcases List.eq_nil_or_concat todo with rfl | ⟨todo, p, rfl⟩
    · walk_at "w"
      refine ⟨⟨rfl, rfl⟩, ?_⟩
      walk_at "w"
      rw [show dirD b c = .non by simp [dirD, ← hfind]] at k
      exact k
    · rw [List.concat_eq_append] at hle hfind hmb ⊢
      have hq : shp (vwD (D.lst true (List.map (fun p => D.lst true (nsD p)) (todo ++ [p])))) 60 = true := by
        show shpL _ 59 = true
        refine shpL_frz _ _ ?_
        rw [shpL_all, List.all_eq_true]
        intro d hd
        obtain ⟨l, _, rfl⟩ := List.mem_map.mp hd
        exact shpL_ns l 58
      walk_at "w"
      refine ⟨⟨hq, rfl⟩, ?_⟩
      walk_at "w"
      refine if_yes (by
        show (!eqD (.lst false (frzL _)) (.lst true [])) = true
        rw [eqD_nil, List.map_append]
        generalize List.map (fun p => D.lst true (nsD p)) todo = l
        cases l <;> rfl) ?_
      walk_at "w"
      refine ex_some (.lst true (nsD p)) (by simp) ?_
      rw [show (List.map (fun p => D.lst true (nsD p)) (todo ++ [p])).dropLast = List.map (fun p => D.lst true (nsD p)) todo by simp]
      walk_at "w"
      refine if_bl (fun h0 => ?_) (fun h0 => ?_)
      · have h1 : (p.length : Int) = b.length := by simpa [eqD, frzL_ns] using h0
        have h0 : p.length = b.length := by omega
        walk_at "w"
        have e : dirs b c = some p := by
          rw [← hfind]
          simp [h0, dfs]
        rw [show dirD b c = .lst true (nsD p) by simp only [dirD, e]] at k
        exact k
      · have h1 : ¬ (p.length : Int) = b.length := by simpa [eqD, frzL_ns] using h0
        have h0 : ¬ p.length = b.length := by omega
        have hpl : p.length < b.length := by
          have := hle p (by simp)
          omega
        obtain ⟨r, hr⟩ : ∃ r, r + 1 + p.length = b.length := ⟨b.length - p.length - 1, by omega⟩
        have hb1 : 1 ≤ b.getD p.length 1 := by
          rw [List.getD_eq_getElem?_getD, List.getElem?_eq_getElem hpl]
          exact hb _ (List.getElem_mem hpl)
        walk_at "w"
        refine ex_some (.int (b.getD p.length 1)) ?_ ?_
        · rw [frzL_ns]
          refine atI_nat (by omega) ?_
          simp [List.getD_eq_getElem?_getD, List.getElem?_eq_getElem hpl]
        have hcl : (is c).length = c.length := List.length_map _
        walk_at "w"
        refine LcP.map (onI fun i => !p.contains i.toNat && okAt b c p.length i.toNat) (fun d => d) (by simp [rngD]; omega) (fun d hd J acc ha hJ1 hJ2 => ?_) ?_
        · obtain ⟨j, hj⟩ := List.getElem?_of_mem hd
          obtain ⟨hj1, rfl⟩ := rngD_get hj
          have hjc : j < c.length := by omega
          have e0 : (0 : Int) + (j : Int) = j := Int.zero_add _
          have hJ3 : (!p.contains j && okAt b c p.length j) = true → _ := fun h => hJ1 (by show (!p.contains ((0 : Int) + (j : Int)).toNat && okAt b c p.length ((0 : Int) + (j : Int)).toNat) = true; rw [e0, Int.toNat_natCast]; exact h)
          have hJ4 : (!p.contains j && okAt b c p.length j) = false → _ := fun h => hJ2 (by show (!p.contains ((0 : Int) + (j : Int)).toNat && okAt b c p.length ((0 : Int) + (j : Int)).toNat) = false; rw [e0, Int.toNat_natCast]; exact h)
          rw [e0] at hJ3 ⊢
          walk_at "w"
          refine And.intro (by rw [frzL_ns, List.all_eq_true]; intro d hd; obtain ⟨x, _, rfl⟩ := List.mem_map.mp hd; rfl) ?_
          rw [frzL_ns, if_pos rfl, show inV (toV (vwD (D.int (j : Int)))) (List.map toV (nsD p)) = p.contains j from inV_ns j p]
          walk_at "w"
          refine if_bl (fun h2 => ?_) (fun h2 => ?_)
          · walk_at "w"
            refine ex_some (.int (c.getD j 0)) (atI_nat (by omega) ?_) ?_
            · simp [List.getD_eq_getElem?_getD, List.getElem?_eq_getElem hjc]
            walk_at "w"
            refine if_dec (fun h3 => ?_) (fun h3 => ?_)
            · walk_at "w"
              exact hJ3 (by rw [h2]; simpa [okAt] using h3)
            · walk_at "w"
              exact hJ4 (by rw [h2]; simpa [okAt] using h3)
          · walk_at "w"
            exact hJ4 (by rw [h2]; rfl)
        · rw [List.map_id', show (((is c).length : Int)).toNat = b.length by omega, rng_kids b.length fun k => !p.contains k && okAt b c p.length k]
          have hkl : (kids b.length (okAt b c) p).length ≤ 8 := Nat.le_trans (Nat.le_trans (List.length_filter_le _ _) (by rw [List.length_range]; exact Nat.le_refl _)) (Nat.le_trans h8 (by decide))
          walk_at "w"
          rw [frzL_ns, ← List.map_reverse]
          refine LcP.map1 (fun d => .lst true (nsD p ++ [d])) (by rw [List.length_map, List.length_reverse]; exact Nat.le_trans hkl (by decide)) (fun d hd J acc ha hJ => ?_) ?_
          · obtain ⟨q, hq, rfl⟩ := List.mem_map.mp hd
            walk_at "w"
            refine ⟨by rw [frzL_ns, List.length_append, List.length_map]; simp; omega, ?_⟩
            walk_at "w"
            refine And.intro (by
              rw [frzL_ns]
              show (true && allOwnL (nsD p ++ [D.int (q : Int)])) = true
              rw [allOwnL_all, List.all_append]
              simp [allOwn]) ?_
            rw [frzL_ns]
            walk_at "w"
            exact hJ
          · have hsum := sum_kids r (kids b.length (okAt b c) p) p b.length hr hkl
            have hsum2 : ((todo ++ [p]).map fun p => 10 ^ (b.length - p.length)).sum = (todo.map fun p => 10 ^ (b.length - p.length)).sum + 10 ^ (b.length - p.length) := by simp
            have hsum3 : ((todo ++ (kids b.length (okAt b c) p).reverse.map fun k => p ++ [k]).map fun p => 10 ^ (b.length - p.length)).sum = (todo.map fun p => 10 ^ (b.length - p.length)).sum + (((kids b.length (okAt b c) p).reverse.map fun k => p ++ [k]).map fun p => 10 ^ (b.length - p.length)).sum := by rw [List.map_append, List.sum_append]
            have hlt := len_sum ((todo ++ [p]).map fun p => 10 ^ (b.length - p.length)) (by intro x hx; obtain ⟨q, _, rfl⟩ := List.mem_map.mp hx; exact Nat.pow_pos (by decide))
            have h7 : 10 ^ b.length ≤ 10 ^ 7 := Nat.pow_le_pow_right (by decide) h8
            simp only [List.length_map, List.length_append, List.length_cons, List.length_nil] at hlt
            refine And.intro (by
              show _ + (List.map _ (List.map _ (kids b.length (okAt b c) p).reverse)).length ≤ _
              rw [List.length_map, List.length_map, List.length_map, List.length_reverse]
              omega) ?_
            refine ⟨_, ?_, todo ++ (kids b.length (okAt b c) p).reverse.map fun k => p ++ [k], .lst true (nsD p), .int (b.getD p.length 1), .lst false (frzL (nsD (kids b.length (okAt b c) p))), ?_, ?_, rfl, ?_, ?_⟩
            · rw [hsum2, hsum3]; omega
            · refine congrArg (fun l => [D.lst false (is b), D.lst false (is c), D.lst true l, .lst true (nsD p), .int (b.getD p.length 1), .lst false (frzL (nsD (kids b.length (okAt b c) p))), .junk]) ?_
              rw [List.map_append, List.map_map, List.map_map]
              congr 1
              refine List.map_congr_left fun k _ => ?_
              show D.lst true (nsD p ++ [D.int (k : Int)]) = D.lst true (nsD (p ++ [k]))
              rw [nsD, nsD, List.map_append]; rfl
            · intro q hq
              rcases List.mem_append.mp hq with hq | hq
              · exact hle q (List.mem_append_left _ hq)
              · obtain ⟨k, _, rfl⟩ := List.mem_map.mp hq
                simp; omega
            · rw [hsum3]; omega
            · rw [find_kids b.length (okAt b c) r p _ todo hr rfl]
              exact hfind
end K59
namespace K59
open PySem PySem.Spec PyProof.Rows L2 StX RZ VL
local macro_rules | `(tactic| walk_at "b") => `(tactic| exact big_small (by omega) (by omega))
local macro_rules | `(tactic| walk_at "w1") => `(tactic| first | refine And.intro rfl ?_ | refine And.intro True.intro ?_ | refine And.intro (Nat.le_of_ble_eq_true rfl) ?_ | refine ex_some _ rfl ?_ | refine And.intro (by (try dsimp only); decide) ?_ | refine And.intro ⟨_, _, rfl⟩ ?_ | refine And.intro (And.intro (by decide) (by walk_at "b")) ?_ | refine And.intro (And.intro (by walk_at "b") (by walk_at "b")) ?_ | refine And.intro (by (try dsimp only); omega) ?_ | refine And.intro (And.intro (by omega) (by walk_at "b")) ?_ | refine if_yes (by assumption) ?_ | refine And.intro (by assumption) ?_)
local macro_rules | `(tactic| walk_at "w") => `(tactic| (repeat (conv => whnf
                                                                 walk_at "w1")) <;> (try (conv => whnf)))

def sp_does_fill_chest : SpV := fun ds C => ∃ b c : List Int, ds = [.lst false (is b), .lst false (is c)] ∧ Pair b c ∧ C (.bl (dirs b c).isSome) ds
theorem fn_does_fill_chest {P : Program} {w : World} {K : PySem.W.Frag} {mg : Str → Option Value} {base : Heap} {f : Addr} {fd : FuncData} (hD : DefAt K mg "does_fill_chest" s_does_fill_chest [] f fd) (T : Blt mg) (c_directions_for : CallOk P w K mg base "directions_for" 6 ["brick", "chest"] sp_directions_for) : FnV P w K mg base 7 f fd ["brick", "chest"] sp_does_fill_chest := by
  refine fnv_okJ (k := 6) hD.fn sc_does_fill_chest [0, 1] [] _ (fun cdv A outer s H E hr => (vss_one (vs_ret (ve_cmp op_notV ok_notN (call c_directions_for (hr.mono (j := 6) (by decide)) (vm_val (nm 0) (vm_val (nm 1) vm_nil))) ve_non (nomark _))))) rfl ?_
  intro ds C hl h
  obtain ⟨b, c, rfl, hp, k⟩ := h
  walk_at "w"
  refine ⟨b, c, rfl, hp, ?_⟩
  unfold dirD
  cases hd : dirs b c with
  | none =>
    rw [hd] at k
    walk_at "w"
    exact k
  | some p =>
    rw [hd] at k
    walk_at "w"
    exact k
/-! ### the orders -/
def orders : Nat → List Nat → List (List Nat)
  | 0, _ => [[]]
  | r + 1, l => l.flatMap fun a => (orders r (l.filter (· != a))).map (a :: ·)
theorem orders_len : ∀ (r : Nat) (l : List Nat), l.length ≤ 7 → (orders r l).length ≤ 7 ^ r
  | 0, _, _ => by simp [orders]
  | r + 1, l, h => by
    have gen : ∀ m : List Nat, (m.flatMap fun a => (orders r (l.filter (· != a))).map (a :: ·)).length ≤ m.length * 7 ^ r := by
      intro m
      induction m with
      | nil => simp
      | cons x m ih =>
        rw [List.flatMap_cons, List.length_append, List.length_map, List.length_cons, Nat.succ_mul]
        have := orders_len r (l.filter (· != x)) (Nat.le_trans (List.length_filter_le _ _) h)
        omega
    refine Nat.le_trans (gen l) ?_
    rw [Nat.pow_succ, Nat.mul_comm]
    exact Nat.mul_le_mul_left _ h
theorem orders_mem : ∀ (r : Nat) (l q : List Nat), q ∈ orders r l → q.length = r ∧ ∀ x ∈ q, x ∈ l
  | 0, l, q, h => by
    obtain rfl : q = [] := by simpa [orders] using h
    exact ⟨rfl, fun x hx => by cases hx⟩
  | r + 1, l, q, h => by
    simp only [orders, List.mem_flatMap, List.mem_map] at h
    obtain ⟨a, ha, q', hq, rfl⟩ := h
    obtain ⟨h1, h2⟩ := orders_mem r _ q' hq
    refine ⟨by simp [h1], fun x hx => ?_⟩
    rcases List.mem_cons.mp hx with rfl | hx
    · exact ha
    · exact (List.mem_filter.mp (h2 x hx)).1
def valid (ok : Nat → Nat → Bool) : Nat → List Nat → Bool
  | _, [] => true
  | k, a :: q => ok k a && valid ok (k + 1) q
theorem dfs_orders (n : Nat) (ok : Nat → Nat → Bool) : ∀ (r : Nat) (p : List Nat), dfs n ok r p = ((orders r ((List.range n).filter fun k => !p.contains k)).find? (valid ok p.length)).map (p ++ ·)
  | 0, p => by simp [dfs, orders, valid]
  | r + 1, p => by
    simp only [dfs, orders, List.find?_flatMap, List.find?_map]
    have hk : kids n ok p = ((List.range n).filter fun k => !p.contains k).filter (ok p.length ·) := by
      simp only [kids, List.filter_filter]
      congr 1
      funext k
      exact Bool.and_comm _ _
    rw [hk]
    generalize hl : ((List.range n).filter fun k => !p.contains k) = l
    have hrest : ∀ a, l.filter (· != a) = (List.range n).filter fun k => !(p ++ [a]).contains k := by
      intro a
      rw [← hl, List.filter_filter]
      congr 1
      funext k
      simp only [List.contains_append, List.contains_cons, List.contains_nil, Bool.or_false, Bool.not_or]
      rw [Bool.and_comm]; rfl
    have gen : ∀ m : List Nat, (m.filter (ok p.length ·)).findSome? (fun k => dfs n ok r (p ++ [k])) = Option.map (p ++ ·) (m.findSome? fun a => Option.map (a :: ·) ((orders r (l.filter (· != a))).find? (valid ok p.length ∘ (a :: ·)))) := by
      intro m
      induction m with
      | nil => rfl
      | cons x m ih =>
        rw [List.findSome?_cons]
        cases hx : ok p.length x with
        | false =>
          rw [List.filter_cons, hx]
          rw [show (valid ok p.length ∘ (x :: ·)) = fun _ => false by funext q; show (ok p.length x && valid ok (p.length + 1) q) = false; rw [hx]; rfl]
          rw [List.find?_eq_none.mpr (by simp)]
          exact ih
        | true =>
          rw [List.filter_cons, hx]
          rw [show (valid ok p.length ∘ (x :: ·)) = valid ok (p.length + 1) by funext q; show (ok p.length x && valid ok (p.length + 1) q) = _; rw [hx]; rfl]
          simp only [if_true, List.findSome?_cons]
          rw [dfs_orders n ok r (p ++ [x]), ← hrest x, List.length_append, List.length_singleton, ih]
          cases List.find? (valid ok (p.length + 1)) (orders r (l.filter (· != x))) with
          | none => rfl
          | some q => simp
    exact gen l
theorem dirs_orders (b c : List Int) : dirs b c = (orders b.length (List.range b.length)).find? (valid (okAt b c) 0) := by
  unfold dirs
  rw [dfs_orders]
  rw [show (fun k => !([] : List Nat).contains k) = fun _ => true from rfl, List.filter_eq_self.mpr (fun _ _ => rfl)]
  rw [show (fun x => ([] : List Nat) ++ x) = id from rfl, Option.map_id]
  rfl
def lnD (ps : List (List Nat)) : List D := ps.map fun p => .lst true (nsD p)
def without (a : Nat) (l : List Nat) : List Nat := l.filter (· != a)
theorem without_len {a : Nat} {l : List Nat} (h : a ∈ l) (hnd : l.Nodup) : (without a l).length + 1 = l.length := by
  unfold without
  rw [← hnd.erase_eq_filter, List.length_erase_of_mem h]
  have := List.length_pos_of_mem h
  omega
theorem filt_ns (l : List Nat) (a : Nat) : (nsD l).filter (onI fun i => !decide (i = (a : Int))) = nsD (without a l) := by
  unfold nsD without
  rw [List.filter_map]
  congr 1
  congr 1
  funext k
  show (!decide ((k : Int) = (a : Int))) = (k != a)
  by_cases h : k = a
  · subst h; simp
  · have h2 : ¬ ((k : Int) = (a : Int)) := by omega
    simp [h, h2]
def headD (a : Nat) : D → D
  | .lst _ xs => .lst true (.int (a : Int) :: xs)
  | d => d
theorem head_ln (a : Nat) (ps : List (List Nat)) : (lnD ps).map (headD a) = lnD (ps.map (a :: ·)) := by
  unfold lnD
  rw [List.map_map, List.map_map]
  rfl
theorem flat_len (r : Nat) (l m : List Nat) (h : l.length ≤ 7) : (m.flatMap fun a => (orders r (without a l)).map (a :: ·)).length ≤ m.length * 7 ^ r := by
  induction m with
  | nil => simp
  | cons x m ih =>
    rw [List.flatMap_cons, List.length_append, List.length_map, List.length_cons, Nat.succ_mul]
    have := orders_len r (without x l) (Nat.le_trans (List.length_filter_le _ _) h)
    omega
def sp__law_orders (n : Nat) : SpV := fun ds C => ∃ (l : List Nat), ds = [.lst true (nsD l)] ∧ l.length < n ∧ l.length ≤ 7 ∧ l.Nodup ∧ ∀ d', C (.lst true (lnD (orders l.length l))) [d']
theorem step__law_orders {P : Program} {w : World} {K : PySem.W.Frag} {mg : Str → Option Value} {base : Heap} {f : Addr} {fd : FuncData} {n : Nat} (hD : DefAt K mg "_law_orders" s__law_orders [] f fd) (T : Blt mg)  (c__law_orders : CallOk P w K mg base "_law_orders" (0 + n) ["some"] (sp__law_orders n)) : CallOk P w K mg base "_law_orders" (0 + (n + 1)) ["some"] (sp__law_orders (n + 1)) := by
  refine hD.call (fnv_okJ (k := 0 + n) hD.fn sc__law_orders [0] [.junk, .junk, .junk, .junk] _ (fun cdv A outer s H E hr => (vss_cons (vs_if (vt_cmp (op_eqV hr.hu) ok_eq (nm 0) (ve_lst va_nil) (nomark _)) (vss_one (vs_ret (ve_lst (va_cons (ve_lst va_nil) va_nil)))) vss_nil)
      (vss_cons (sset 1 sc__law_orders.nd (ve_lst va_nil))
      (vss_cons (vs_for PassesOwn.never rfl (vi_any (nm 0)) (tg 2 sc__law_orders.nd) (vss_one (sset 1 sc__law_orders.nd (ve_add (mv 1) (ve_lcX rfl sc__law_orders.nd (vi_any (call c__law_orders hr (vm_val (ve_lcX rfl sc__law_orders.nd (vi_any (nm 0)) (blkOk_by (own := [("other", 4)]) (N := N__law_orders) (show blkC N__law_orders (defScope s__law_orders) _ [("other", 4)] = true from by decide +kernel)) (fun _ _ _ _ _ => ⟨_, (tg 4 sc__law_orders.nd)⟩) (fun _ _ _ _ _ => ⟨_, (vts_one (vt_cmp (op_neV hr.hu) ok_ne (nm 4) (nm 2) (nomark _)))⟩) (fun _ _ _ _ _ => ⟨_, (nm 4)⟩)) vm_nil))) (blkOk_by (own := [("late", 3)]) (N := N__law_orders) (show blkC N__law_orders (defScope s__law_orders) _ [("late", 3)] = true from by decide +kernel)) (fun _ _ _ _ _ => ⟨_, (tg 3 sc__law_orders.nd)⟩) (fun _ _ _ _ _ => ⟨_, vts_nil⟩) (fun _ _ _ _ _ => ⟨_, (ve_add (ve_lst (va_cons (nm 2) va_nil)) (nm 3))⟩))))) (by decide))
      (vss_one (vs_ret (mv 1))))))) rfl ?_) (fun _ _ _ _ _ _ us hl => match us, hl with | [_], _ => rfl)
  intro ds C hl h
  obtain ⟨l, rfl, hn, h7, hnd, k⟩ := h
  cases l with
  | nil =>
    walk_at "w"
    refine ⟨⟨rfl, rfl⟩, ?_⟩
    walk_at "w"
    exact k _
  | cons a0 l0 =>
    have hne : (nsD (a0 :: l0)).isEmpty = false := rfl
    have hpos : 0 < (a0 :: l0).length := Nat.succ_pos _
    generalize a0 :: l0 = l at *
    obtain ⟨r, hr⟩ : ∃ r, l.length = r + 1 := ⟨l.length - 1, by omega⟩
    have hshp : shp (frz (.lst true (nsD l))) 60 = true := shp_frz _ _ (shpL_ns l 59)
    walk_at "w"
    refine ⟨⟨hshp, rfl⟩, ?_⟩
    walk_at "w"
    refine if_not (by
      show eqD (.lst false (frzL (nsD l))) (.lst true []) = false
      rw [eqD_nil, frzL_ns]; exact hne) ?_
    walk_at "w"
    refine ForP.mk ⟨fun j env => ∃ w x y z, env = [w, .lst true (lnD ((l.take j).flatMap fun a => (orders r (without a l)).map (a :: ·))), x, y, z] ∧ w = .lst false (nsD l), ⟨_, _, _, _, rfl, by rw [frz, frzL_ns]⟩, ?_, ?_⟩
    · rintro j d env hj ⟨w, x, y, z, rfl, rfl⟩
      rw [frzL_ns] at hj
      obtain ⟨a, ha, rfl⟩ : ∃ a, l[j]? = some a ∧ d = .int (a : Int) := by
        rw [nsD, List.getElem?_map] at hj
        cases h : l[j]? with
        | none => rw [h] at hj; cases hj
        | some a => rw [h] at hj; exact ⟨a, rfl, (Option.some.inj hj).symm⟩
      have hmem := List.mem_of_getElem? ha
      have hwl := without_len hmem hnd
      walk_at "w"
      refine LcP.map (onI fun i => !decide (i = (a : Int))) (fun d => d) (by rw [List.length_map]; omega) (fun d hd J acc ha' hJ1 hJ2 => ?_) ?_
      · obtain ⟨q, hq, rfl⟩ := List.mem_map.mp hd
        walk_at "w"
        refine if_bl (fun h2 => ?_) (fun h2 => ?_)
        · walk_at "w"
          exact hJ1 h2
        · walk_at "w"
          exact hJ2 h2
      · rw [List.map_id', filt_ns]
        walk_at "w"
        refine ⟨without a l, rfl, by omega, by omega, hnd.sublist List.filter_sublist, fun d' => ?_⟩
        have holen := orders_len r (without a l) (by omega)
        have h77 : 7 ^ r ≤ 7 ^ 6 := Nat.pow_le_pow_right (by decide) (by omega)
        rw [show (without a l).length = r by omega]
        walk_at "w"
        refine LcP.map1 (headD a) (by rw [lnD, List.length_map]; omega) (fun d hd J acc ha' hJ => ?_) ?_
        · obtain ⟨q, hq, rfl⟩ := List.mem_map.mp hd
          have hql := (orders_mem _ _ _ hq).1
          walk_at "w"
          rw [frzL_ns]
          refine ⟨by simp only [List.length_map, List.length_cons, List.length_nil]; omega, ?_⟩
          walk_at "w"
          exact hJ
        · rw [head_ln]
          walk_at "w"
          have hfl := flat_len r l (l.take j) h7
          have htl : (l.take j).length ≤ 7 := Nat.le_trans (List.length_take_le' _ _) h7
          have hm := Nat.mul_le_mul htl h77
          refine ⟨by
            show (List.map _ _).length + (List.map _ (List.map _ _)).length ≤ _
            rw [List.length_map, List.length_map, List.length_map]; omega, ?_⟩
          walk_at "w"
          have et : l.take (j + 1) = l.take j ++ [a] := by rw [List.take_succ, ha]; rfl
          have e3 : lnD ((l.take j).flatMap fun a => (orders r (without a l)).map (a :: ·)) ++ lnD ((orders r (without a l)).map (a :: ·)) = lnD ((l.take (j + 1)).flatMap fun a => (orders r (without a l)).map (a :: ·)) := by
            rw [et, List.flatMap_append, lnD, lnD, lnD, List.map_append]
            simp
          rw [e3]
          exact ⟨_, _, _, _, rfl, rfl⟩
    · rintro env ⟨w, x, y, z, rfl, rfl⟩
      walk_at "w"
      have e : (l.take (frzL (nsD l)).length).flatMap (fun a => (orders r (without a l)).map (a :: ·)) = orders l.length l := by
        rw [frzL_ns, List.length_map, List.take_length, hr]; rfl
      rw [e]
      exact k _
/-! ### the law's own directions -/
def dueD (b c : List Int) : D := match dirs b c with
  | some p => .lst false (nsD p)
  | none => .non
theorem rng_ns (n : Nat) : rngD 0 n = nsD (List.range n) := by
  unfold rngD nsD
  refine List.map_congr_left fun k _ => ?_
  rw [Int.zero_add]
def misD (c : List Int) : D → Bool
  | .tup [.int s, .int a] => !decide (c.getD a.toNat 0 % s = 0)
  | _ => true
theorem find_at {α : Type} {l : List α} {p : α → Bool} {j : Nat} {q : α} (h : l[j]? = some q) (h1 : p q = true) (h2 : ∀ x ∈ l.take j, p x = false) : l.find? p = some q := by
  obtain ⟨hl, e⟩ := List.getElem?_eq_some_iff.mp h
  have q' : l = l.take j ++ q :: l.drop (j + 1) := by
    rw [← e, ← List.drop_eq_getElem_cons hl, List.take_append_drop]
  rw [q', List.find?_append, List.find?_eq_none.mpr (fun x hx => by simp [h2 x hx]), List.find?_cons, h1]
  rfl
/-- no side of the brick is amiss along the order -/
theorem amiss (b c : List Int) : ∀ (b' : List Int) (q : List Nat) (k : Nat), (∀ i, b'.getD i 1 = b.getD (k + i) 1) → b'.length = q.length →
    ((zipD (is b') (nsD q)).filter (misD c)).isEmpty = valid (okAt b c) k q
  | [], [], _, _, _ => rfl
  | [], _ :: _, _, _, h => by cases h
  | _ :: _, [], _, _, h => by cases h
  | s :: b', a :: q, k, hg, h => by
    have ih := amiss b c b' q (k + 1) (fun i => by have := hg (i + 1); rw [show k + 1 + i = k + (i + 1) by omega]; exact this) (by simpa using h)
    have h0 : s = b.getD k 1 := hg 0
    have e : ((zipD (is (s :: b')) (nsD (a :: q)))) = .tup [.int s, .int (a : Int)] :: zipD (is b') (nsD q) := rfl
    rw [e, List.filter_cons]
    have hm : misD c (.tup [.int s, .int (a : Int)]) = !decide (c.getD a 0 % s = 0) := rfl
    have hv : valid (okAt b c) k (a :: q) = (decide (c.getD a 0 % s = 0) && valid (okAt b c) (k + 1) q) := by
      rw [h0]; rfl
    rw [hm, hv, ← ih]
    by_cases h1 : c.getD a 0 % s = 0
    · rw [decide_eq_true h1]; rfl
    · rw [decide_eq_false h1]; rfl
theorem zip_mem2 : ∀ {b : List Int} {q : List Nat} {d : D}, d ∈ zipD (is b) (nsD q) → ∃ s k, d = .tup [.int s, .int ((k : Nat) : Int)] ∧ s ∈ b ∧ k ∈ q
  | [], _, d, h => by cases h
  | _ :: _, [], d, h => by cases h
  | x :: a, y :: b, d, h => by
    have h : d = .tup [.int x, .int (y : Int)] ∨ d ∈ zipD (is a) (nsD b) := by simpa [zipD] using h
    rcases h with rfl | h
    · exact ⟨x, y, rfl, List.mem_cons_self, List.mem_cons_self⟩
    · obtain ⟨x', y', e, h1, h2⟩ := zip_mem2 h
      exact ⟨x', y', e, List.mem_cons_of_mem _ h1, List.mem_cons_of_mem _ h2⟩
def sp__law_directions : SpV := fun ds C => ∃ b c : List Int, ds = [.lst false (is b), .lst false (is c)] ∧ Pair b c ∧ C (dueD b c) ds
theorem fn__law_directions {P : Program} {w : World} {K : PySem.W.Frag} {mg : Str → Option Value} {base : Heap} {f : Addr} {fd : FuncData} (hD : DefAt K mg "_law_directions" s__law_directions [] f fd) (T : Blt mg) (c__law_orders : CallOk P w K mg base "_law_orders" 9 ["some"] (sp__law_orders 9)) : FnV P w K mg base 10 f fd ["brick", "chest"] sp__law_directions := by
  refine fnv_okJ (k := 9) hD.fn sc__law_directions [0, 1] [.junk, .junk, .junk] _ (fun cdv A outer s H E hr => (vss_cons (vs_for PassesOwn.never rfl (vi_any (call c__law_orders (hr.mono (j := 9) (by decide)) (vm_val (ve_listRange1 rfl (by rfl) T.list T.range (ve_callB call_lenV ok_len (by rfl) T.len bt_len (va_cons (nm 1) va_nil))) vm_nil))) (tg 2 sc__law_directions.nd) (vss_one (vs_if (vt_cmp (op_eqV hr.hu) ok_eq (ve_lcX rfl sc__law_directions.nd (vi_zip (by rfl) T.zip (va_cons (nm 0) (va_cons (nm 2) va_nil))) (blkOk_by (own := [("side", 3), ("at", 4)]) (N := N__law_directions) (show blkC N__law_directions (defScope s__law_directions) _ [("side", 3), ("at", 4)] = true from by decide +kernel)) (fun _ _ _ _ _ => ⟨_, (vg_tup (n := 2) rfl (vgs_cons (tg 3 sc__law_directions.nd) (vgs_cons (tg 4 sc__law_directions.nd) vgs_nil)))⟩) (fun _ _ _ _ _ => ⟨_, (vts_one (vt_cmp (op_neV hr.hu) ok_ne (ve_mod (ve_callTy call_intV ok_int (by rfl) T.int bt_int (va_cons (ve_ix ix_seq ok_ix (nm 1) (nm 4) (fun _ _ => rfl)) va_nil)) (nm 3)) ve_int (nomark _)))⟩) (fun _ _ _ _ _ => ⟨_, ve_int⟩)) (ve_lst va_nil) (nomark _)) (vss_one (vs_ret (mv 2))) vss_nil)) (by decide))
      (vss_one (vs_ret ve_non)))) rfl ?_
  intro ds C hl h
  obtain ⟨b, c, rfl, ⟨hne, hb, hc, hch, hlen, h7⟩, k⟩ := h
  have hcl : (is c).length = b.length := by rw [List.length_map]; exact hlen
  walk_at "w"
  refine ⟨⟨by decide, by decide, by omega, by omega, by omega⟩, ?_⟩
  rw [show ((((is c).length : Nat) : Int) - 0).toNat = b.length by omega, rng_ns]
  walk_at "w"
  refine ⟨_, rfl, by rw [List.length_range]; omega, by rw [List.length_range]; exact h7, List.nodup_range, fun d' => ?_⟩
  rw [List.length_range]
  walk_at "w"
  have holen := orders_len b.length (List.range b.length) (by rw [List.length_range]; exact h7)
  refine ForP.mk ⟨fun j env => ∃ x y z, env = [.lst false (is b), .lst false (is c), x, y, z] ∧ ∀ q ∈ (orders b.length (List.range b.length)).take j, valid (okAt b c) 0 q = false, ⟨_, _, _, rfl, fun q hq => by simp at hq⟩, ?_, ?_⟩
  · rintro j d env hj ⟨x, y, z, rfl, hinv⟩
    obtain ⟨q, hq, rfl⟩ : ∃ q, (orders b.length (List.range b.length))[j]? = some q ∧ d = .lst true (nsD q) := by
      rw [lnD, List.getElem?_map] at hj
      cases h : (orders b.length (List.range b.length))[j]? with
      | none => rw [h] at hj; cases hj
      | some a => rw [h] at hj; exact ⟨a, rfl, (Option.some.inj hj).symm⟩
    obtain ⟨hql, hqm⟩ := orders_mem _ _ _ (List.mem_of_getElem? hq)
    walk_at "w"
    rw [frzL_ns]
    refine LcP.map (misD c) (fun _ => .int 1) (by simp [zipD]; omega) (fun d hd J acc ha hJ1 hJ2 => ?_) ?_
    · obtain ⟨s, a, rfl, hs, haq⟩ := zip_mem2 hd
      have hs1 := hb s hs
      have hac : a < c.length := by have := List.mem_range.mp (hqm a haq); omega
      walk_at "w"
      refine ex_some (.int (c.getD a 0)) (atI_nat (by omega) (by simp [List.getD_eq_getElem?_getD, List.getElem?_eq_getElem hac])) ?_
      walk_at "w"
      refine if_bl (fun h2 => ?_) (fun h2 => ?_)
      · walk_at "w"
        exact hJ1 h2
      · walk_at "w"
        exact hJ2 h2
    · have hsh : ∀ l : List D, shp (.lst true (l.map fun _ => D.int 1)) 60 = true := fun l => by
        show shpL _ 59 = true
        rw [shpL_all]; simp [shp]
      walk_at "w"
      refine ⟨⟨hsh _, rfl⟩, ?_⟩
      walk_at "w"
      have e : eqD (.lst true (((zipD (is b) (nsD q)).filter (misD c)).map fun _ => D.int 1)) (.lst true []) = valid (okAt b c) 0 q := by
        rw [eqD_nil, List.isEmpty_map]
        exact amiss b c b q 0 (fun i => by rw [Nat.zero_add]) hql.symm
      refine if_bl (fun h2 => ?_) (fun h2 => ?_)
      · rw [e] at h2
        walk_at "w"
        rw [show frz (.lst true (nsD q)) = .lst false (nsD q) by rw [frz, frzL_ns]]
        rw [show dueD b c = .lst false (nsD q) by rw [dueD, dirs_orders, find_at hq h2 hinv]] at k
        exact k
      · rw [e] at h2
        walk_at "w"
        refine ⟨_, _, _, rfl, fun q' hq' => ?_⟩
        rw [List.take_succ, hq] at hq'
        rcases List.mem_append.mp hq' with h | h
        · exact hinv q' h
        · obtain rfl : q' = q := by simpa using h
          exact h2
  · rintro env ⟨x, y, z, rfl, hinv⟩
    walk_at "w"
    rw [show dueD b c = .non by
      rw [dueD, dirs_orders, List.find?_eq_none.mpr (fun x hx => by
        rw [lnD, List.length_map, List.take_length] at hinv
        simp [hinv x hx])]] at k
    exact k
end K59
namespace K59
open PySem PySem.Spec PyProof.Rows L2 StX RZ VL
local macro_rules | `(tactic| walk_at "b") => `(tactic| exact big_small (by omega) (by omega))
local macro_rules | `(tactic| walk_at "w1") => `(tactic| first | refine And.intro rfl ?_ | refine And.intro True.intro ?_ | refine And.intro (Nat.le_of_ble_eq_true rfl) ?_ | refine ex_some _ rfl ?_ | refine And.intro (by (try dsimp only); decide) ?_ | refine And.intro ⟨_, _, rfl⟩ ?_ | refine And.intro (And.intro (by decide) (by walk_at "b")) ?_ | refine And.intro (And.intro (by walk_at "b") (by walk_at "b")) ?_ | refine And.intro (by (try dsimp only); omega) ?_ | refine And.intro (And.intro (by omega) (by walk_at "b")) ?_ | refine if_yes (by assumption) ?_ | refine And.intro (by assumption) ?_)
local macro_rules | `(tactic| walk_at "w") => `(tactic| (repeat (conv => whnf
                                                                 walk_at "w1")) <;> (try (conv => whnf)))

/-- the bricks that are laid -/
structure BrickOk (bs : List Int) : Prop where
  ne : bs ≠ []
  len : bs.length ≤ 5
  bnd : ∀ (i : Nat) (b : Int), bs[i]? = some b → 1 ≤ b ∧ b ≤ ((6 * 1000000 ^ i : Nat) : Int)
  chain : chain bs = true
theorem chain_snoc : ∀ (bs : List Int) (l y : Int), bs[bs.length - 1]? = some l → y % l = 0 → chain bs = true → chain (bs ++ [y]) = true
  | [], _, _, h, _, _ => by cases h
  | [a], l, y, h, hy, _ => by
    obtain rfl : a = l := by simpa using h
    simp [chain, hy]
  | a :: b :: r, l, y, h, hy, hc => by
    simp only [chain, Bool.and_eq_true] at hc
    have ih := chain_snoc (b :: r) l y (by simpa using h) hy hc.2
    show (decide (b % a = 0) && chain (b :: r ++ [y])) = true
    rw [hc.1, ih]; rfl
def sp__law_brick : SpV := fun ds C => ∃ (p : D) (n : Int), ds = [p] ∧ 0 ≤ n ∧ PurD (n + 80) p ∧ ∀ bs p', BrickOk bs → PurD n p' → C (.lst true (is bs)) [p']
theorem wides {x : D} (h : x ∈ [D.int 3, .int 7, .int 1000, .int (10 ^ (6 : Int).toNat)]) : ∃ w : Int, x = .int w ∧ 1 ≤ w ∧ w ≤ 1000000 := by
  simp only [List.mem_cons, List.not_mem_nil, or_false] at h
  rcases h with rfl | rfl | rfl | rfl <;> exact ⟨_, rfl, by decide, by decide⟩
theorem fn__law_brick {P : Program} {w : World} {K : PySem.W.Frag} {mg : Str → Option Value} {base : Heap} {f : Addr} {fd : FuncData} (hD : DefAt K mg "_law_brick" s__law_brick [] f fd) (T : Blt mg) (c__law_one_of : CallOk P w K mg base "_law_one_of" 3 ["purse", "some"] sp__law_one_of) (c__law_draw : CallOk P w K mg base "_law_draw" 2 ["purse", "many"] sp__law_draw) : FnV P w K mg base 4 f fd ["purse"] sp__law_brick := by
  refine fnv_okJ (k := 3) hD.fn sc__law_brick [0] [.junk, .junk, .junk] _ (fun cdv A outer s H E hr => (vss_cons (spar (i := 1) (j := 2) rfl sc__law_brick.nd (va_cons (ve_lst (va_cons (ve_add ve_int (call c__law_draw (hr.mono (j := 2) (by decide)) (vm_lend 0 (pv 0) (vm_val ve_int vm_nil)))) va_nil)) (va_cons (call c__law_one_of (hr.mono (j := 3) (by decide)) (vm_lend 0 (pv 0) (vm_val (ve_lst (va_cons ve_int (va_cons ve_int (va_cons ve_int (va_cons (ve_pow ve_int ve_int) va_nil))))) vm_nil))) va_nil)) rfl rfl (by decide) rfl rfl (by decide) (by rfl))
      (vss_cons (vs_for PassesOwn.never rfl (vi_range1 (by rfl) T.range (va_cons (call c__law_draw (hr.mono (j := 2) (by decide)) (vm_lend 0 (pv 0) (vm_val ve_int vm_nil))) va_nil)) (tg 3 sc__law_brick.nd) (vss_one (vs_expr (ve_app 1 (pv 1) (ve_mul (ve_pure (ve_ix ix_seq ok_ix (nm 1) (ve_neg ve_int) (fun _ _ => rfl))) (ve_add ve_int (call c__law_draw (hr.mono (j := 2) (by decide)) (vm_lend 0 (pv 0) (vm_val (nm 2) vm_nil)))))))) (by decide))
      (vss_one (vs_ret (mv 1)))))) rfl ?_
  intro ds C hl h
  obtain ⟨p, n, rfl, hn, hp, k⟩ := h
  have hp0 := hp
  obtain ⟨a, b, c, e, rfl, -⟩ := hp0
  walk_at "w"
  refine ⟨_, 6, n + 72, rfl, by decide, by decide, by omega, hp.less (by omega), fun r p1 hr hr2 hp1 => ?_⟩
  have hp0 := hp1
  obtain ⟨a, b, c, e, rfl, -⟩ := hp0
  walk_at "w"
  refine ⟨_, _, n + 64, rfl, by decide, by simp, by decide, by omega, hp1.less (by omega), fun x p2 hx hp2 => ?_⟩
  obtain ⟨w', rfl, hw1, hw2⟩ := wides hx
  have hp0 := hp2
  obtain ⟨a, b, c, e, rfl, -⟩ := hp0
  walk_at "w"
  refine ⟨_, 5, n + 56, rfl, by decide, by decide, by omega, hp2.less (by omega), fun m p3 hm hm2 hp3 => ?_⟩
  walk_at "w"
  refine ForP.mk ⟨fun j env => ∃ (bs : List Int) (p d : D), env = [p, .lst true (is bs), .int w', d] ∧ bs.length = j + 1 ∧ j ≤ 4 ∧ (∀ (i : Nat) (b : Int), bs[i]? = some b → 1 ≤ b ∧ b ≤ ((6 * 1000000 ^ i : Nat) : Int)) ∧ chain bs = true ∧ PurD (n + 8 * (7 - (j : Nat))) p, ⟨[1 + r], p3, _, rfl, rfl, by decide, ?_, rfl, hp3.less (by omega)⟩, ?_, ?_⟩
  · intro i b hb
    cases i with
    | zero =>
      obtain rfl : 1 + r = b := by simpa using hb
      constructor <;> omega
    | succ i => simp at hb
  · rintro j d env hj ⟨bs, p, d', rfl, hl, hj4, hbnd, hch, hp⟩
    obtain ⟨hj1, rfl⟩ := rngD_get hj
    have hp0 := hp
    obtain ⟨a, b, c, e, rfl, -⟩ := hp0
    have hlast : bs.length - 1 < bs.length := by omega
    obtain ⟨last, hla⟩ : ∃ l, bs[bs.length - 1]? = some l := ⟨_, List.getElem?_eq_getElem hlast⟩
    obtain ⟨hb1, hb2⟩ := hbnd _ _ hla
    have hpw : (1000000 ^ (bs.length - 1) : Nat) ≤ 1000000 ^ 4 := Nat.pow_le_pow_right (by decide) (by omega)
    have hb3 : last ≤ 6000000000000000000000000 := by omega
    walk_at "w"
    refine ex_some (.int last) ?_ ?_
    · rw [frzL_is]
      unfold atI ixN
      rw [if_neg (by decide), if_pos (by rw [List.length_map]; omega), List.length_map]
      show (is bs)[((-1 : Int) + (bs.length : Int)).toNat]? = _
      rw [show ((-1 : Int) + (bs.length : Int)).toNat = bs.length - 1 by omega, List.getElem?_map, hla]
      rfl
    walk_at "w"
    refine ⟨_, w', n + 8 * (7 - ((j + 1 : Nat) : Int)), rfl, by omega, by omega, by omega, hp.less (by omega), fun r2 p4 hr1 hr3 hp4 => ?_⟩
    walk_at "w"
    refine ⟨by rw [List.length_map]; omega, ?_⟩
    refine ⟨bs ++ [last * (1 + r2)], p4, .int (0 + (j : Nat)), by rw [is, is, List.map_append]; rfl, by simp [hl], by omega, ?_, chain_snoc bs last _ hla (Int.mul_emod_right _ _) hch, hp4⟩
    intro i b hb
    by_cases hi : i < bs.length
    · rw [List.getElem?_append_left hi] at hb
      exact hbnd i b hb
    · have hi2 : i = bs.length := by
        have := (List.getElem?_eq_some_iff.mp hb).1
        simp at this
        omega
      subst hi2
      have hb : last * (1 + r2) = b := by simpa using hb
      subst hb
      have h1 : last * 1 ≤ last * (1 + r2) := Int.mul_le_mul_of_nonneg_left (by omega) (by omega)
      have h2 : last * (1 + r2) ≤ last * 1000000 := Int.mul_le_mul_of_nonneg_left (by omega) (by omega)
      have h3 : (1000000 ^ bs.length : Nat) = 1000000 ^ (bs.length - 1) * 1000000 := by
        rw [← Nat.pow_succ]; congr 1; omega
      constructor <;> omega
  · rintro env ⟨bs, p, d', rfl, hl, hj4, hbnd, hch, hp⟩
    have hp0 := hp.less (show n ≤ _ by simp only [rngD, List.length_map, List.length_range] at *; omega)
    walk_at "w"
    exact k bs p ⟨by rintro rfl; simp at hl, by omega, hbnd, hch⟩ hp0
def sp__law_chest : SpV := fun ds C => ∃ (p : D) (bs : List Int) (n : Int), ds = [p, .lst false (is bs)] ∧ BrickOk bs ∧ 0 ≤ n ∧ PurD (n + 300) p ∧ ∀ cs p', cs.length = bs.length → (∀ c ∈ cs, 1 ≤ c ∧ c ≤ 10 ^ 31) → PurD n p' → C (.lst true (is cs)) [p', .lst false (is bs)]
theorem frz_is (l : List Int) : frz (.lst true (is l)) = .lst false (is l) := by rw [frz, frzL_is]
theorem is_snoc (l : List Int) (x : Int) : is l ++ [.int x] = is (l ++ [x]) := by rw [is, is, List.map_append]; rfl
def unI : D → Int
  | .int i => i
  | _ => 0
theorem unI_is (l : List Int) : (is l).map unI = l := by
  rw [List.map_map]
  exact List.map_id l
theorem is_unI : ∀ ys : List D, (∀ y ∈ ys, ∃ i, y = .int i) → is (ys.map unI) = ys
  | [], _ => rfl
  | y :: ys, h => by
    obtain ⟨i, rfl⟩ := h y List.mem_cons_self
    show D.int i :: is (ys.map unI) = _
    rw [is_unI ys fun y hy => h y (List.mem_cons_of_mem _ hy)]
theorem perm_is {ys : List D} {cs : List Int} (h : ys.Perm (is cs)) : ∃ cs', ys = is cs' ∧ cs'.Perm cs := by
  refine ⟨ys.map unI, (is_unI ys fun y hy => ?_).symm, ?_⟩
  · obtain ⟨i, _, rfl⟩ := List.mem_map.mp (h.subset hy)
    exact ⟨i, rfl⟩
  · have q := h.map unI
    rwa [unI_is] at q
theorem okD_mem_is (l : List Int) (n : Nat) : ∀ x ∈ is l, okD n x := fun x hx => by
  obtain ⟨i, _, rfl⟩ := List.mem_map.mp hx
  exact ⟨rfl, by simp [shp]⟩
theorem wides2 {x : D} (h : x ∈ [D.int 2, .int 9, .int (10 ^ (5 : Int).toNat)]) : ∃ w : Int, x = .int w ∧ 1 ≤ w ∧ w ≤ 1000000 := by
  simp only [List.mem_cons, List.not_mem_nil, or_false] at h
  rcases h with rfl | rfl | rfl <;> exact ⟨_, rfl, by decide, by decide⟩
theorem fn__law_chest {P : Program} {w : World} {K : PySem.W.Frag} {mg : Str → Option Value} {base : Heap} {f : Addr} {fd : FuncData} (hD : DefAt K mg "_law_chest" s__law_chest [] f fd) (T : Blt mg) (c__law_one_of : CallOk P w K mg base "_law_one_of" 3 ["purse", "some"] sp__law_one_of) (c__law_draw : CallOk P w K mg base "_law_draw" 2 ["purse", "many"] sp__law_draw) (c__law_shuffled : CallOk P w K mg base "_law_shuffled" 3 ["purse", "some"] sp__law_shuffled) : FnV P w K mg base 4 f fd ["purse", "brick"] sp__law_chest := by
  refine fnv_okJ (k := 3) hD.fn sc__law_chest [0, 1] [.junk, .junk, .junk, .junk] _ (fun cdv A outer s H E hr => (vss_cons (spar (i := 2) (j := 3) rfl sc__law_chest.nd (va_cons (call c__law_one_of (hr.mono (j := 3) (by decide)) (vm_lend 0 (pv 0) (vm_val (ve_lst (va_cons ve_int (va_cons ve_int (va_cons (ve_pow ve_int ve_int) va_nil)))) vm_nil))) (va_cons (ve_lst va_nil) va_nil)) rfl rfl (by decide) rfl rfl (by decide) (by rfl))
      (vss_cons (vs_for PassesOwn.never rfl (vi_any (nm 1)) (tg 4 sc__law_chest.nd) (vss_cons (sset 5 sc__law_chest.nd (call c__law_draw (hr.mono (j := 2) (by decide)) (vm_lend 0 (pv 0) (vm_val ve_int vm_nil))))
      (vss_one (vs_expr (ve_app 3 (pv 3) (ve_add (ve_mul (nm 4) (ve_add ve_int (call c__law_draw (hr.mono (j := 2) (by decide)) (vm_lend 0 (pv 0) (vm_val (nm 2) vm_nil))))) (ve_mul (ve_callTy call_intV ok_int (by rfl) T.int bt_int (va_cons (ve_cmp (op_eqV hr.hu) ok_eq (nm 5) ve_int (nomark _)) va_nil)) (ve_add ve_int (call c__law_draw (hr.mono (j := 2) (by decide)) (vm_lend 0 (pv 0) (vm_val ve_int vm_nil)))))))))) (by decide))
      (vss_cons (vs_if (vt_cmp (op_eqV hr.hu) ok_eq (call c__law_draw (hr.mono (j := 2) (by decide)) (vm_lend 0 (pv 0) (vm_val ve_int vm_nil))) ve_int (nomark _)) (vss_one (vs_setIx 3 (pv 3) (ve_add ve_int (call c__law_draw (hr.mono (j := 2) (by decide)) (vm_lend 0 (pv 0) (vm_val ve_int vm_nil)))) (call c__law_draw (hr.mono (j := 2) (by decide)) (vm_lend 0 (pv 0) (vm_val (ve_pure (ve_callB call_lenV ok_len (by rfl) T.len bt_len (va_cons (nm 3) va_nil))) vm_nil))))) vss_nil)
      (vss_one (vs_ret (call c__law_shuffled (hr.mono (j := 3) (by decide)) (vm_lend 0 (pv 0) (vm_val (nm 3) vm_nil))))))))) rfl ?_
  intro ds C hl h
  obtain ⟨p, bs, n, rfl, hb, hn, hp, k⟩ := h
  have hp0 := hp
  obtain ⟨a, b, c, e, rfl, -⟩ := hp0
  walk_at "w"
  refine ⟨_, _, n + 290, rfl, by decide, by simp, by decide, by omega, hp.less (by omega), fun x p1 hx hp1 => ?_⟩
  obtain ⟨w', rfl, hw1, hw2⟩ := wides2 hx
  have h5 := hb.len
  walk_at "w"
  refine ForP.mk ⟨fun j env => ∃ (cs : List Int) (p x y : D), env = [p, .lst false (is bs), .int w', .lst true (is cs), x, y] ∧ cs.length = j ∧ j ≤ 5 ∧ (∀ c ∈ cs, 1 ≤ c ∧ c ≤ 10 ^ 31) ∧ PurD (n + 100 + 32 * (5 - (j : Nat))) p, ⟨[], p1, _, _, rfl, rfl, by decide, (fun c hc => by simp at hc), hp1.less (by omega)⟩, ?_, ?_⟩
  · rintro j d env hj ⟨cs, p, x, y, rfl, hl, hj4, hcs, hp⟩
    obtain ⟨s, hs, rfl⟩ : ∃ s, bs[j]? = some s ∧ d = .int s := by
      rw [List.getElem?_map] at hj
      cases h : bs[j]? with
      | none => rw [h] at hj; cases hj
      | some a => rw [h] at hj; exact ⟨a, rfl, (Option.some.inj hj).symm⟩
    have hjl := (List.getElem?_eq_some_iff.mp hs).1
    obtain ⟨hb1, hb2⟩ := hb.bnd _ _ hs
    have hpw : (1000000 ^ j : Nat) ≤ 1000000 ^ 4 := Nat.pow_le_pow_right (by decide) (by omega)
    have hb3 : s ≤ 6000000000000000000000000 := by omega
    have hp0 := hp
    obtain ⟨a, b, c, e, rfl, -⟩ := hp0
    walk_at "w"
    refine ⟨_, 5, n + 100 + 32 * (5 - (j : Nat)) - 8, rfl, by decide, by decide, by omega, hp.less (by omega), fun m p2 hm hm2 hp2 => ?_⟩
    have hp0 := hp2
    obtain ⟨a, b, c, e, rfl, -⟩ := hp0
    walk_at "w"
    refine ⟨_, w', n + 100 + 32 * (5 - (j : Nat)) - 16, rfl, by omega, by omega, by omega, hp2.less (by omega), fun r2 p3 hr1 hr3 hp3 => ?_⟩
    have hp0 := hp3
    obtain ⟨a, b, c, e, rfl, -⟩ := hp0
    walk_at "w"
    refine ⟨_, 3, n + 100 + 32 * (5 - (j : Nat)) - 24, rfl, by decide, by decide, by omega, hp3.less (by omega), fun r3 p4 hr4 hr5 hp4 => ?_⟩
    have hite : ∀ q : Bool, 0 ≤ (if q = true then (1 : Int) else 0) ∧ (if q = true then (1 : Int) else 0) ≤ 1 := by decide
    have hit := hite (decide (m = 0))
    walk_at "w"
    refine ⟨by rw [List.length_map]; omega, ?_⟩
    rw [is_snoc]
    refine ⟨cs ++ [s * (1 + r2) + (if decide (m = 0) = true then 1 else 0) * (1 + r3)], p4, _, _, rfl, by simp [hl], by omega, ?_, hp4.less (by omega)⟩
    intro c hc
    rcases List.mem_append.mp hc with hc | hc
    · exact hcs c hc
    · obtain rfl := List.mem_singleton.mp hc
      have h1 : s * 1 ≤ s * (1 + r2) := Int.mul_le_mul_of_nonneg_left (by omega) (by omega)
      have h2 : s * (1 + r2) ≤ s * 1000000 := Int.mul_le_mul_of_nonneg_left (by omega) (by omega)
      have h3 : ∀ q : Bool, 0 ≤ (if q = true then (1 : Int) else 0) * (1 + r3) ∧ (if q = true then (1 : Int) else 0) * (1 + r3) ≤ 3 := by
        intro q
        cases q
        · rw [if_neg (by decide)]; omega
        · rw [if_pos rfl]; omega
      have h4 := h3 (decide (m = 0))
      constructor <;> omega
  · rintro env ⟨cs, p, x, y, rfl, hl, hj4, hcs, hp⟩
    rw [List.length_map] at hl
    have hp0 := hp
    obtain ⟨a, b, c, e, rfl, -⟩ := hp0
    walk_at "w"
    refine ⟨_, 4, n + 80, rfl, by decide, by decide, by omega, hp.less (by omega), fun m p2 hm hm2 hp2 => ?_⟩
    have hcne : 0 < cs.length := by
      rw [hl]; exact List.length_pos_iff.mpr hb.ne
    have hp0 := hp2
    obtain ⟨a, b, c, e, rfl, -⟩ := hp0
    walk_at "w"
    refine if_dec (fun h0 => ?_) (fun h0 => ?_)
    · walk_at "w"
      refine ⟨_, 60, n + 72, rfl, by decide, by decide, by omega, hp2.less (by omega), fun m2 p3 hm3 hm4 hp3 => ?_⟩
      have hp0 := hp3
      obtain ⟨a, b, c, e, rfl, -⟩ := hp0
      walk_at "w"
      refine ⟨_, (cs.length : Nat), n + 64, by rw [frzL_is, show (is cs).length = cs.length from List.length_map _]; rfl, by omega, by omega, by omega, hp3.less (by omega), fun r p4 hr hr2 hp4 => ?_⟩
      have hp0 := hp4
      obtain ⟨a, b, c, e, rfl, -⟩ := hp0
      obtain ⟨t, rfl⟩ := Int.eq_ofNat_of_zero_le hr
      walk_at "w"
      refine ex_some t (by unfold ixN; rw [if_pos (by omega), if_pos (by rw [List.length_map]; omega)]; rfl) ?_
      rw [show (is cs).set t (.int (1 + m2)) = is (cs.set t (1 + m2)) from (List.map_set ..).symm]
      walk_at "w"
      have hcs2 : ∀ c ∈ cs.set t (1 + m2), 1 ≤ c ∧ c ≤ 10 ^ 31 := fun c hc => by
        rcases List.mem_or_eq_of_mem_set hc with h | rfl
        · exact hcs c h
        · constructor <;> omega
      refine ⟨_, is (cs.set t (1 + m2)), n, by rw [frz_is]; rfl, okD_mem_is _ 59, by rw [List.length_map, List.length_set]; omega, hn, hp4.less (by rw [List.length_map, List.length_set]; omega), fun ys p3 hys hp3 => ?_⟩
      obtain ⟨cs', rfl, hperm⟩ := perm_is hys
      walk_at "w"
      exact k cs' p3 (by rw [hperm.length_eq, List.length_set]; exact hl) (fun c hc => hcs2 c (hperm.subset hc)) hp3
    · walk_at "w"
      refine ⟨_, is cs, n, by rw [frz_is]; rfl, okD_mem_is cs 59, by rw [List.length_map]; omega, hn, hp2.less (by rw [List.length_map]; omega), fun ys p3 hys hp3 => ?_⟩
      obtain ⟨cs', rfl, hperm⟩ := perm_is hys
      walk_at "w"
      exact k cs' p3 (by rw [hperm.length_eq]; exact hl) (fun c hc => hcs c (hperm.subset hc)) hp3
end K59
namespace K59
open PySem PySem.Spec PyProof.Rows L2 StX RZ VL
local macro_rules | `(tactic| walk_at "b") => `(tactic| exact big_small (by omega) (by omega))
local macro_rules | `(tactic| walk_at "w1") => `(tactic| first | refine And.intro rfl ?_ | refine And.intro True.intro ?_ | refine And.intro (Nat.le_of_ble_eq_true rfl) ?_ | refine ex_some _ rfl ?_ | refine And.intro (by (try dsimp only); decide) ?_ | refine And.intro ⟨_, _, rfl⟩ ?_ | refine And.intro (And.intro (by decide) (by walk_at "b")) ?_ | refine And.intro (And.intro (by walk_at "b") (by walk_at "b")) ?_ | refine And.intro (by (try dsimp only); omega) ?_ | refine And.intro (And.intro (by omega) (by walk_at "b")) ?_ | refine if_yes (by assumption) ?_ | refine And.intro (by assumption) ?_)
local macro_rules | `(tactic| walk_at "w") => `(tactic| (repeat (conv => whnf
                                                                 walk_at "w1")) <;> (try (conv => whnf)))

theorem shown_is {l : List Int} {o : Bool} (h : ∀ x ∈ l, x.natAbs < 2 ^ 200) (hl : l.length ≤ 100) : (pyD (.lst o (is l))).showable = true ∧ (pyD (.lst o (is l))).shown.length ≤ 16777216 := by
  have hlog : ∀ x ∈ l, x.natAbs.log2 < 1920 := fun x hx => by
    by_cases h0 : x.natAbs = 0
    · rw [h0]; decide
    · exact (Nat.log2_lt h0).mpr (Nat.lt_of_lt_of_le (h x hx) (Nat.pow_le_pow_right (by decide) (by decide)))
  constructor
  · show PyData.showableAll (pyL (is l)) = true
    clear hl h
    induction l with
    | nil => rfl
    | cons x l ih =>
      show (decide (x.natAbs.log2 < 1920) && PyData.showableAll (pyL (is l))) = true
      rw [ih fun y hy => hlog y (List.mem_cons_of_mem _ hy), decide_eq_true (hlog x List.mem_cons_self)]; rfl
  · show (listText (PyData.shownAll (pyL (is l)))).length ≤ _
    have h1 := listText_len_le (PyData.shownAll (pyL (is l)))
    have h2 : ((PyData.shownAll (pyL (is l))).map (·.length)).sum ≤ l.length * 1921 ∧ (PyData.shownAll (pyL (is l))).length = l.length := by
      clear hl h h1
      induction l with
      | nil => exact ⟨Nat.le_refl _, rfl⟩
      | cons x l ih =>
        obtain ⟨i1, i2⟩ := ih fun y hy => hlog y (List.mem_cons_of_mem _ hy)
        have h3 := PyProof.Rows.int_text_len_1921 (hlog x List.mem_cons_self)
        refine ⟨?_, by show (PyData.shownAll (pyL (is l))).length + 1 = l.length + 1; rw [i2]⟩
        show (PySem.Str.ofString (toString x)).length + ((PyData.shownAll (pyL (is l))).map (·.length)).sum ≤ (l.length + 1) * 1921
        omega
    omega
theorem fill_dirs {a b m n : Int} (hab : a ∣ b) : fillD a b m n = (dirs [a, b] [m, n]).isSome := by
  have e : dirs [a, b] [m, n] = [[0, 1], [1, 0]].find? (valid (okAt [a, b] [m, n]) 0) := by rw [dirs_orders]; rfl
  have v1 : valid (okAt [a, b] [m, n]) 0 [0, 1] = (decide (m % a = 0) && (decide (n % b = 0) && true)) := rfl
  have v2 : valid (okAt [a, b] [m, n]) 0 [1, 0] = (decide (n % a = 0) && (decide (m % b = 0) && true)) := rfl
  have w1 : m % b = 0 → m % a = 0 := fun h => Int.emod_eq_zero_of_dvd (Int.dvd_trans hab (Int.dvd_of_emod_eq_zero h))
  have w2 : n % b = 0 → n % a = 0 := fun h => Int.emod_eq_zero_of_dvd (Int.dvd_trans hab (Int.dvd_of_emod_eq_zero h))
  rw [e, List.find?_cons, v1, List.find?_cons, v2, fillD]
  by_cases h1 : m % a = 0 <;> by_cases h2 : n % a = 0 <;> by_cases h3 : m % b = 0 <;> by_cases h4 : n % b = 0 <;> first | (exact absurd (w1 h3) h1) | (exact absurd (w2 h4) h2) | simp [h1, h2, h3, h4]
theorem ok_scale {t : Int} (ht : 0 < t) (b c : List Int) : ∀ i k : Nat, i < b.length → okAt (b.map (t * ·)) (c.map (t * ·)) i k = okAt b c i k := by
  intro i k hi
  unfold okAt
  have e1 : (b.map (t * ·)).getD i 1 = t * b.getD i 1 := by
    simp [List.getD_eq_getElem?_getD, List.getElem?_eq_getElem hi]
  have e2 : (c.map (t * ·)).getD k 0 = t * c.getD k 0 := by
    rw [List.getD_eq_getElem?_getD, List.getD_eq_getElem?_getD, List.getElem?_map]
    cases c[k]? <;> simp
  rw [e1, e2, Int.mul_emod_mul_of_pos _ _ ht]
  by_cases h : c.getD k 0 % b.getD i 1 = 0
  · rw [h]; simp
  · have h2 : ¬ t * (c.getD k 0 % b.getD i 1) = 0 := fun z => by
      rcases Int.mul_eq_zero.mp z with z | z
      · omega
      · exact h z
    rw [decide_eq_false h, decide_eq_false h2]
theorem dfs_congr (n : Nat) (ok ok' : Nat → Nat → Bool) : ∀ (r : Nat) (p : List Nat), r + p.length = n → (∀ i k, i < n → ok i k = ok' i k) → dfs n ok r p = dfs n ok' r p
  | 0, _, _, _ => rfl
  | r + 1, p, h, hk => by
    simp only [dfs]
    have e : kids n ok p = kids n ok' p := by
      unfold kids
      congr 1
      funext k
      rw [hk p.length k (by omega)]
    rw [e]
    congr 1
    funext k
    exact dfs_congr n ok ok' r (p ++ [k]) (by simp; omega) hk
theorem dirs_scale {t : Int} (ht : 0 < t) (b c : List Int) : dirs (b.map (t * ·)) (c.map (t * ·)) = dirs b c := by
  unfold dirs
  rw [List.length_map]
  exact dfs_congr _ _ _ _ _ rfl (ok_scale ht b c)
theorem chain_scale {t : Int} (ht : 0 < t) : ∀ b : List Int, chain (b.map (t * ·)) = chain b
  | [] => rfl
  | [a] => rfl
  | a :: b :: r => by
    have ih := chain_scale ht (b :: r)
    simp only [List.map_cons, chain] at ih ⊢
    rw [ih, Int.mul_emod_mul_of_pos _ _ ht]
    by_cases h : b % a = 0
    · rw [h]; simp
    · have h2 : ¬ t * (b % a) = 0 := fun z => by
        rcases Int.mul_eq_zero.mp z with z | z
        · omega
        · exact h z
      rw [decide_eq_false h, decide_eq_false h2]
theorem pair_scale {t : Int} (ht : 0 < t) {b c : List Int} (h : Pair b c) : Pair (b.map (t * ·)) (c.map (t * ·)) := by
  obtain ⟨h1, h2, h3, h4, h5, h6⟩ := h
  have pos : ∀ x : Int, 1 ≤ x → 1 ≤ t * x := fun x hx => by
    have := Int.mul_le_mul_of_nonneg_left hx (show 0 ≤ t by omega)
    omega
  refine ⟨by simpa using h1, ?_, ?_, (chain_scale ht b).trans h4, by simp [h5], by simpa using h6⟩
  · intro x hx; obtain ⟨y, hy, rfl⟩ := List.mem_map.mp hx; exact pos y (h2 y hy)
  · intro x hx; obtain ⟨y, hy, rfl⟩ := List.mem_map.mp hx; exact pos y (h3 y hy)
mutual
theorem lenA_frz : ∀ d : D, lenA d = true → lenA (frz d) = true
  | .non, _ => rfl
  | .bl _, _ => rfl
  | .int _, _ => rfl
  | .str _, _ => rfl
  | .lst o xs, h => by
    simp only [lenA, Bool.and_eq_true] at h
    simp only [frz, lenA, lenAL_frz xs h.2, Bool.and_true]
    rw [frzL_map, List.length_map]; exact h.1
  | .tup xs, h => by
    simp only [lenA, Bool.and_eq_true] at h
    simp only [frz, lenA, lenAL_frz xs h.2, Bool.and_true]
    rw [frzL_map, List.length_map]; exact h.1
  | .dic _ _ _, _ => rfl
  | .hnd _, _ => rfl
  | .nod _, _ => rfl
  | .ndt _, _ => rfl
  | .scr _, _ => rfl
  | .junk, _ => rfl
theorem lenAL_frz : ∀ ds : List D, lenAL ds = true → lenAL (frzL ds) = true
  | [], _ => rfl
  | d :: ds, h => by
    simp only [lenAL, Bool.and_eq_true] at h
    simp only [frzL, lenAL, lenA_frz d h.1, lenAL_frz ds h.2, Bool.and_self]
end
structure Due (X Y : D) (b : Bool) : Prop where
  sx : shp X 5 = true
  sy : shp Y 5 = true
  ox : allOwn X = true
  fy : fzA Y = true
  lx : lenA X = true
  ly : lenA Y = true
  eq : pyD X = pyD Y
  non : isNonD Y = !b
theorem due_ok {b c : List Int} (h : Pair b c) : Due (dirD b c) (dueD b c) (dirs b c).isSome := by
  obtain ⟨h1, h2, h3, h4, h5, h6⟩ := h
  unfold dirD dueD
  cases hd : dirs b c with
  | none => exact ⟨rfl, rfl, rfl, rfl, rfl, rfl, rfl, rfl⟩
  | some p =>
    have hq := (List.mem_of_find?_eq_some ((dirs_orders b c).symm.trans hd))
    have hpl := (orders_mem _ _ _ hq).1
    have hl : lenA (.lst false (nsD p)) = true := by
      simp only [lenA, List.length_map]
      rw [show lenAL (nsD p) = true by rw [lenAL_all]; simp [lenA], Bool.and_true]
      exact Nat.ble_eq.mpr (by omega)
    refine ⟨shpL_ns p 4, shpL_ns p 4, ?_, ?_, hl, hl, rfl, rfl⟩
    · show (true && allOwnL (nsD p)) = true
      rw [allOwnL_ns]; rfl
    · show (true && fzAL (nsD p)) = true
      rw [fzAL_ns]; rfl
end K59
set_option maxHeartbeats 4000000
namespace K59
open PySem PySem.Spec PyProof.Rows L2 StX RZ VL
local macro_rules | `(tactic| walk_at "b") => `(tactic| exact big_small (by omega) (by omega))
local macro_rules | `(tactic| walk_at "n") => `(tactic| set_option simprocs false in dsimp only [VL.pb_s, VL.pb_n, VL.pb_0, VL.pb_1, VL.st_0, VL.st_s, VL.gt_0, VL.gt_s, VL.ap_0, VL.ap_s, VL.wp_0, VL.wp_s, VL.bk_0, VL.bk_s, VL.mp_0, VL.mp_s])
local macro_rules | `(tactic| walk_at "w1") => `(tactic| first | refine And.intro rfl ?_ | refine And.intro True.intro ?_ | refine And.intro (Nat.le_of_ble_eq_true rfl) ?_ | refine ex_some _ rfl ?_ | refine And.intro (by (try dsimp only); decide) ?_ | refine And.intro ⟨_, _, rfl⟩ ?_ | refine And.intro (And.intro (by decide) (by walk_at "b")) ?_ | refine And.intro (And.intro (by walk_at "b") (by walk_at "b")) ?_ | refine And.intro (by (try dsimp only); omega) ?_ | refine And.intro (And.intro (by omega) (by walk_at "b")) ?_ | refine And.intro (by simp only [List.length_append, List.length_cons, List.length_nil, List.length_map, List.length_take, List.length_drop, List.length_reverse, List.length_set, List.length_dropLast, List.length_range, List.length_replicate]; omega) ?_ | refine if_yes (by assumption) ?_ | refine And.intro (by assumption) ?_)
local macro_rules | `(tactic| walk_at "w") => `(tactic| ((try walk_at "n"); (repeat ((conv => whnf); (try walk_at "n"); walk_at "w1")) <;> (try (conv => whnf)) <;> (try walk_at "n")))

def sp__law_right : SpV := fun ds C => ∃ (p : D) (n : Int), ds = [p] ∧ 0 ≤ n ∧ PurD (n + 400) p ∧ ∀ p', PurD n p' → C (.bl true) [p']
theorem same2 {X Y : D} {b : Bool} (h : Due X Y b) : fzA (.lst false [frz X, frz X]) = true ∧ fzA (.lst false [frz Y, frz Y]) = true ∧ shp (.lst false [frz X, frz X]) 8 = true ∧ shp (.lst false [frz Y, frz Y]) 8 = true ∧ lenA (.lst false [frz Y, frz Y]) = true ∧ pyD (.lst false [frz X, frz X]) = pyD (.lst false [frz Y, frz Y]) := by
  have h1 := fz_of_shp _ _ h.sx
  have h2 := fz_of_shp _ _ h.sy
  have h3 := shp_frz _ _ (shp_up _ _ 7 (by decide) h.sx)
  have h4 := shp_frz _ _ (shp_up _ _ 7 (by decide) h.sy)
  have h5 := lenA_frz _ h.ly
  have h6 : pyD (frz X) = pyD (frz Y) := by rw [pyD_frz, pyD_frz, h.eq]
  exact ⟨by simp [fzA, fzAL, h1], by simp [fzA, fzAL, h2], by simp [shp, shpL, h3], by simp [shp, shpL, h4], by simp [lenA, lenAL, h5], by simp [pyD, pyL, h6]⟩
theorem strOk_of (s : String) : PyData.strOk (Str.ofString s) = true := by
  unfold PyData.strOk
  rw [PySem.Str.ofString_eq_toList]
  simp only [Array.all_eq_true_iff_forall_mem, List.mem_toArray, List.mem_map, decide_eq_true_eq]
  rintro c ⟨ch, _, rfl⟩
  have h := ch.valid
  unfold UInt32.isValidChar Nat.isValidChar at h
  show ch.val.toNat < 0x110000
  omega
def good (d : D) : Prop := shp d 54 = true ∧ lenA d = true
theorem good_is (o : Bool) (l : List Int) (h : l.length ≤ 100) : good (.lst o (is l)) ∧ good (.tup (is l)) := by
  have h1 : Nat.ble (is l).length 16777215 = true := Nat.ble_eq.mpr (by rw [List.length_map]; omega)
  exact ⟨⟨shpL_is l 53, by simp only [lenA, h1, lenAL_is, Bool.and_self]⟩, ⟨shpL_is l 53, by simp only [lenA, h1, lenAL_is, Bool.and_self]⟩⟩
theorem good_frz {d : D} (h : good d) : good (frz d) := ⟨shp_frz _ _ h.1, lenA_frz _ h.2⟩
theorem good_frzL {l : List D} (h : ∀ d ∈ l, good d) : ∀ d ∈ frzL l, good d := by
  rw [frzL_map]
  intro d hd
  obtain ⟨x, hx, rfl⟩ := List.mem_map.mp hd
  exact good_frz (h x hx)
theorem frz_mem_fz {l : List D} (h : ∀ d ∈ l, good d) {d : D} (hd : d ∈ frzL l) : fzA d = true := by
  rw [frzL_map] at hd
  obtain ⟨x, hx, rfl⟩ := List.mem_map.mp hd
  exact fz_of_shp _ _ (h x hx).1
theorem good_app {l m : List D} (h : ∀ d ∈ l, good d) (h' : ∀ d ∈ m, good d) : ∀ d ∈ l ++ m, good d := fun d hd => (List.mem_append.mp hd).elim (h d) (h' d)
def scaleD (t : Int) : D → D
  | .lst _ xs => .lst true (xs.map fun d => .int (t * unI d))
  | d => d
theorem fn__law_right {P : Program} {w : World} {K : PySem.W.Frag} {mg : Str → Option Value} {base : Heap} {f : Addr} {fd : FuncData} (hD : DefAt K mg "_law_right" s__law_right [] f fd) (T : Blt mg) (c__law_brick : CallOk P w K mg base "_law_brick" 4 ["purse"] sp__law_brick) (c__law_chest : CallOk P w K mg base "_law_chest" 4 ["purse", "brick"] sp__law_chest) (c__law_directions : CallOk P w K mg base "_law_directions" 10 ["brick", "chest"] sp__law_directions) (ck_directions_for : CallKw P w K mg base "directions_for" 6 ["brick", "chest"] ["chest", "brick"] [1, 0] sp_directions_for) (c_directions_for : CallOk P w K mg base "directions_for" 6 ["brick", "chest"] sp_directions_for) (ck_does_fill_chest : CallKw P w K mg base "does_fill_chest" 7 ["brick", "chest"] ["chest", "brick"] [1, 0] sp_does_fill_chest) (c_does_fill_chest : CallOk P w K mg base "does_fill_chest" 7 ["brick", "chest"] sp_does_fill_chest) (c__law_same : CallOk P w K mg base "_law_same" 9 ["told", "due"] (sp__law_same 9)) (c__law_spoilt : CallOk P w K mg base "_law_spoilt" 9 ["thing"] (sp__law_spoilt 9)) (c__law_draw : CallOk P w K mg base "_law_draw" 2 ["purse", "many"] sp__law_draw) (c__law_is_harmonic : CallOk P w K mg base "_law_is_harmonic" 2 ["value"] sp__law_is_harmonic) (ck_is_harmonic : CallKw P w K mg base "is_harmonic" 4 ["value"] ["value"] [0] sp_is_harmonic) (c_is_harmonic : CallOk P w K mg base "is_harmonic" 4 ["value"] sp_is_harmonic) (c_does_fill : CallOk P w K mg base "does_fill" 6 ["brick", "floor"] sp_does_fill) : FnV P w K mg base 11 f fd ["purse"] sp__law_right := by
  refine fnv_okJ (k := 10) hD.fn sc__law_right [0] [.junk, .junk, .junk, .junk, .junk, .junk, .junk, .junk, .junk, .junk, .junk, .junk, .junk] _ (fun cdv A outer s H E hr => (vss_cons (sset 1 sc__law_right.nd (call c__law_brick (hr.mono (j := 4) (by decide)) (vm_lend 0 (pv 0) vm_nil)))
      (vss_cons (spar (i := 2) (j := 3) rfl sc__law_right.nd (va_cons (call c__law_chest (hr.mono (j := 4) (by decide)) (vm_lend 0 (pv 0) (vm_val (nm 1) vm_nil))) (va_cons (ve_callB (call_repr hr.gd hr.hu) ok_repr (by rfl) T.repr bt_repr (va_cons (nm 1) va_nil)) va_nil)) rfl rfl (by decide) rfl rfl (by decide) (by rfl))
      (vss_cons (sset 4 sc__law_right.nd (call c__law_directions (hr.mono (j := 10) (by decide)) (vm_val (nm 1) (vm_val (nm 2) vm_nil))))
      (vss_cons (sset 5 sc__law_right.nd (ve_lst (va_cons (call c_directions_for (hr.mono (j := 6) (by decide)) (vm_val (nm 1) (vm_val (nm 2) vm_nil))) (va_cons (callKw ck_directions_for (hr.mono (j := 6) (by decide)) (vk_cons (nm 2) (vk_cons (nm 1) vk_nil))) va_nil))))
      (vss_cons (vs_if (vt_pure (vw_or (vt_not (vt_tru (call c__law_same (hr.mono (j := 9) (by decide)) (vm_val (VE.frz (nm 5)) (vm_val (VE.frz (ve_lst (va_cons (nm 4) (va_cons (nm 4) va_nil)))) vm_nil))))) (vw_or1 (vt_not (vt_tru (call c__law_same (hr.mono (j := 9) (by decide)) (vm_val (VE.frz (ve_lst (va_cons (call c_does_fill_chest (hr.mono (j := 7) (by decide)) (vm_val (nm 1) (vm_val (nm 2) vm_nil))) (va_cons (callKw ck_does_fill_chest (hr.mono (j := 7) (by decide)) (vk_cons (nm 2) (vk_cons (nm 1) vk_nil))) va_nil)))) (vm_val (VE.frz (ve_mul (ve_lst (va_cons (ve_cmp op_notV ok_notN (nm 4) ve_non (nomark _)) va_nil)) ve_int)) vm_nil))))))).vt) (vss_one (vs_ret ve_bl)) vss_nil)
      (vss_cons (vs_expr (call c__law_spoilt (hr.mono (j := 9) (by decide)) (vm_lend 5 (pv 5) vm_nil)))
      (vss_cons (vs_asg (ve_tup (va_cons (ve_add ve_int (call c__law_draw (hr.mono (j := 2) (by decide)) (vm_lend 0 (pv 0) (vm_val (ve_pow ve_int ve_int) vm_nil)))) (va_cons (call c__law_draw (hr.mono (j := 2) (by decide)) (vm_lend 0 (pv 0) (vm_val (ve_callB call_lenV ok_len (by rfl) T.len bt_len (va_cons (nm 1) va_nil)) vm_nil))) va_nil))) (vg_tup (n := 2) rfl (vgs_cons (tg 6 sc__law_right.nd) (vgs_cons (tg 7 sc__law_right.nd) vgs_nil))) (by decide))
      (vss_cons (vs_setLcX (i := 8) rfl sc__law_right.nd rfl rfl (sw_true rfl rfl rfl (by decide +kernel)) (vi_any (ve_lst (va_cons (nm 1) (va_cons (nm 2) va_nil)))) (blkOk_by (own := [("some", 12)]) (N := N__law_right) (show blkC N__law_right (defScope s__law_right) _ [("some", 12)] = true from by decide +kernel)) (fun _ _ _ _ _ => ⟨_, (tg 12 sc__law_right.nd)⟩) (fun _ _ _ _ _ => ⟨_, vts_nil⟩) (fun _ _ _ _ _ => ⟨_, (ve_lcX rfl sc__law_right.nd (vi_any (nm 12)) (blkOk_by (own := [("side", 13)]) (N := N__law_right) (by rfl)) (fun _ _ _ _ _ => ⟨_, (tg 13 sc__law_right.nd)⟩) (fun _ _ _ _ _ => ⟨_, vts_nil⟩) (fun _ _ _ _ _ => ⟨_, (ve_mul (nm 6) (nm 13))⟩))⟩) (by decide))
      (vss_cons (vs_if (vt_not (vt_tru (call c__law_same (hr.mono (j := 9) (by decide)) (vm_val (VE.frz (ve_lst (va_cons (call c_directions_for (hr.mono (j := 6) (by decide)) (vm_val (ve_ix ix_seq ok_ix (nm 8) ve_int (fun _ _ => rfl)) (vm_val (ve_ix ix_seq ok_ix (nm 8) ve_int (fun _ _ => rfl)) vm_nil))) (va_cons (call c_directions_for (hr.mono (j := 6) (by decide)) (vm_val (nm 1) (vm_val (nm 2) vm_nil))) va_nil)))) (vm_val (VE.frz (ve_lst (va_cons (nm 4) (va_cons (nm 4) va_nil)))) vm_nil))))) (vss_one (vs_ret ve_bl)) vss_nil)
      (vss_cons (sset 9 sc__law_right.nd (ve_lst (va_cons (nm 1) (va_cons (ve_ix ix_seq ok_ix (nm 8) ve_int (fun _ _ => rfl)) (va_cons (ve_revB (nm 1)) (va_cons (ve_callTy call_tupleV ok_tuple (by rfl) T.tuple bt_tuple (va_cons (nm 1) va_nil)) (va_cons (ve_add (ve_add (ve_slice (nm 1) vo_none (vo_some (nm 7))) (ve_lst (va_cons (ve_add (ve_ix ix_seq ok_ix (nm 1) (nm 7) (fun _ _ => rfl)) ve_int) va_nil))) (ve_slice (nm 1) (vo_some (ve_add (nm 7) ve_int)) vo_none)) (va_cons (ve_lst va_nil) (va_cons ve_non (va_cons (ve_add (nm 1) (ve_lst (va_cons ve_int va_nil))) (va_cons (ve_add (nm 1) (ve_lst (va_cons (ve_ix ix_seq ok_ix (nm 1) (ve_neg ve_int) (fun _ _ => rfl)) va_nil))) va_nil)))))))))))
      (vss_cons (sset 9 sc__law_right.nd (ve_add (nm 9) (ve_lst (va_cons (ve_add (ve_lst (va_cons ve_bl va_nil)) (nm 1)) (va_cons (ve_add (ve_lst (va_cons (ve_sub ve_int ve_int) va_nil)) (nm 1)) (va_cons (ve_lst (va_cons (ve_callTy call_strV ok_str (by rfl) T.str bt_str (va_cons (ve_ix ix_seq ok_ix (nm 1) ve_int (fun _ _ => rfl)) va_nil)) va_nil)) (va_cons (ve_slice (nm 1) (vo_some ve_int) vo_none) (va_cons (ve_lst (va_cons (nm 1) va_nil)) va_nil))))))))
      (vss_cons (vs_for PassesOwn.never rfl (vi_any (nm 9)) (tg 10 sc__law_right.nd) (vss_cons (sset 11 sc__law_right.nd (call c__law_is_harmonic (hr.mono (j := 2) (by decide)) (vm_val (nm 10) vm_nil)))
      (vss_one (vs_if (vt_not (vt_tru (call c__law_same (hr.mono (j := 9) (by decide)) (vm_val (VE.frz (ve_lst (va_cons (call c_is_harmonic (hr.mono (j := 4) (by decide)) (vm_val (nm 10) vm_nil)) (va_cons (callKw ck_is_harmonic (hr.mono (j := 4) (by decide)) (vk_cons (nm 10) vk_nil)) va_nil)))) (vm_val (VE.frz (ve_lst (va_cons (nm 11) (va_cons (nm 11) va_nil)))) vm_nil))))) (vss_one (vs_ret ve_bl)) vss_nil))) (by decide))
      (vss_one (vs_ret (ve_and (ve_cmp (op_eqV hr.hu) ok_eq (ve_callB (call_repr hr.gd hr.hu) ok_repr (by rfl) T.repr bt_repr (va_cons (nm 1) va_nil)) (nm 3) (nomark _)) (ve_one (ve_or (ve_cmp (op_neV hr.hu) ok_ne (ve_callB call_lenV ok_len (by rfl) T.len bt_len (va_cons (nm 1) va_nil)) ve_int (nomark _)) (ve_or (ve_cmp op_gt ok_gt (ve_callB (cr_max rfl) ok_max (by rfl) T.max bt_max (va_cons (nm 2) va_nil)) ve_int (nomark _)) (ve_one (call c__law_same (hr.mono (j := 9) (by decide)) (vm_val (VE.frz (call c_does_fill (hr.mono (j := 6) (by decide)) (vm_val (ve_callTy call_tupleV ok_tuple (by rfl) T.tuple bt_tuple (va_cons (nm 1) va_nil)) (vm_val (ve_callTy call_tupleV ok_tuple (by rfl) T.tuple bt_tuple (va_cons (nm 2) va_nil)) vm_nil)))) (vm_val (VE.frz (ve_cmp op_notV ok_notN (nm 4) ve_non (nomark _))) vm_nil))))))))))))))))))))))) rfl ?_
  intro ds C hl h
  obtain ⟨p, n, rfl, hn, hp, k⟩ := h
  have hp0 := hp
  obtain ⟨a, b, c, e, rfl, -⟩ := hp0
  walk_at "w"
  refine ⟨_, n + 320, rfl, by omega, hp.less (by omega), fun bs p1 hbs hp1 => ?_⟩
  have hp0 := hp1
  obtain ⟨a, b, c, e, rfl, -⟩ := hp0
  walk_at "w"
  refine ⟨_, bs, n + 16, by first | (rw [frz_is]; done) | (rw [frz_is]; rfl), hbs, by omega, hp1.less (by omega), fun cs p2 hcl hcs hp2 => ?_⟩
  have hb1 : ∀ b ∈ bs, 1 ≤ b ∧ b ≤ 6000000000000000000000000 := fun b hb => by
    obtain ⟨i, hi⟩ := List.getElem?_of_mem hb
    obtain ⟨h1, h2⟩ := hbs.bnd i b hi
    have hil := (List.getElem?_eq_some_iff.mp hi).1
    have h5 := hbs.len
    have hpw : (1000000 ^ i : Nat) ≤ 1000000 ^ 4 := Nat.pow_le_pow_right (by decide) (by omega)
    exact ⟨h1, by omega⟩
  have hpair : Pair bs cs := ⟨hbs.ne, fun b hb => (hb1 b hb).1, fun c hc => (hcs c hc).1, hbs.chain, hcl, Nat.le_trans hbs.len (by decide)⟩
  obtain ⟨hsh1, hsh2⟩ := shown_is (o := false) (l := bs) (fun x hx => by obtain ⟨h1, h2⟩ := hb1 x hx; omega) (Nat.le_trans hbs.len (by decide))
  have hp0 := hp2
  obtain ⟨a, b, c, e, rfl, -⟩ := hp0
  walk_at "w"
  rw [frz_is]
  refine ⟨shpL_is bs 59, hsh1, hsh2, ?_⟩
  generalize hsn : (pyD (.lst false (is bs))).shown = noted
  walk_at "w"
  refine ⟨bs, cs, by first | (rw [frz_is]; done) | (rw [frz_is]; rfl), hpair, ?_⟩
  have hd := due_ok hpair
  generalize hX : dirD bs cs = X at *
  generalize hY : dueD bs cs = Y at *
  generalize hB : (dirs bs cs).isSome = B at *
  have hfy := fz_fzA _ hd.fy
  have hry := real_fzA hd.fy
  walk_at "w"
  refine ⟨bs, cs, by first | (rw [frz_is]; done) | (rw [frz_is]; rfl), hpair, ?_⟩
  rw [hX]
  walk_at "w"
  refine ⟨bs, cs, by first | (rw [frz_is]; done) | (rw [frz_is]; rfl), hpair, ?_⟩
  rw [hX]
  have hvw : vwD Y = Y := vwD_fz Y hfy
  have hfy' : isFz (vwD Y) = true := by rw [hvw]; exact hfy
  have hry' : real (vwD Y) = true := by rw [hvw]; exact hry
  have hXX : frz (frz X) = frz X := frz_fzA _ (fz_of_shp _ _ hd.sx)
  obtain ⟨s1, s2, s3, s4, s5, s6⟩ := same2 hd
  walk_at "w"
  refine ⟨.lst false [frz X, frz X], .lst false [frz Y, frz Y], by show [D.lst false [frz (frz X), frz (frz X)], D.lst false [frz (vwD Y), frz (vwD Y)]] = _; rw [hXX, hvw], s1, s2, s3, s4, s5, by decide, s6, ?_⟩
  walk_at "w"
  refine ⟨bs, cs, by first | (rw [frz_is]; done) | (rw [frz_is]; rfl), hpair, ?_⟩
  rw [hB]
  walk_at "w"
  refine ⟨bs, cs, by first | (rw [frz_is]; done) | (rw [frz_is]; rfl), hpair, ?_⟩
  rw [hB]
  walk_at "w"
  refine ⟨.lst false [.bl B, .bl B], .lst false [.bl B, .bl B], by show [D.lst false [D.bl B, D.bl B], D.lst false [D.bl !isNonD (vwD Y), D.bl !isNonD (vwD Y)]] = _; rw [hvw, hd.non, Bool.not_not], rfl, rfl, rfl, rfl, rfl, by decide, rfl, ?_⟩
  walk_at "w"
  have hox := hd.ox
  have hsx7 := shp_up _ _ 7 (by decide) hd.sx
  refine ⟨_, rfl, by simp [allOwn, allOwnL, hox], by simp [shp, shpL, hsx7], by simp [lenA, lenAL, hd.lx], fun a' => ?_⟩
  walk_at "w"
  refine ⟨_, _, n + 8, rfl, by decide +kernel, by decide +kernel, by omega, hp2.less (by omega), fun t0 p3 ht1 ht2 hp3 => ?_⟩
  have e9 : (10 : Int) ^ (9 : Int).toNat = 1000000000 := by decide +kernel
  have ht3 : t0 < 1000000000 := by rw [← e9]; exact ht2
  have hp0 := hp3
  obtain ⟨a, b, c, e, rfl, -⟩ := hp0
  have hblen : 0 < bs.length := List.length_pos_iff.mpr hbs.ne
  have hb5 := hbs.len
  walk_at "w"
  refine ⟨_, (bs.length : Nat), n, by rw [show (is bs).length = bs.length from List.length_map _], by omega, by omega, hn, hp3.less (by omega), fun at' p4 hat1 hat2 hp4 => ?_⟩
  have hp0 := hp4
  obtain ⟨a, b, c, e, rfl, -⟩ := hp0
  walk_at "w"
  have hgl : ∀ d ∈ [D.lst false (is bs), frz (D.lst true (is cs))], ∃ l : List Int, d = .lst false (is l) ∧ l.length ≤ 5 ∧ ∀ x ∈ l, 1 ≤ x ∧ x ≤ 10 ^ 31 := by
    intro d hd
    rw [frz_is] at hd
    have hd : d = .lst false (is bs) ∨ d = .lst false (is cs) := by simpa using hd
    rcases hd with rfl | rfl
    · exact ⟨bs, rfl, hbs.len, fun x hx => by have := hb1 x hx; constructor <;> omega⟩
    · exact ⟨cs, rfl, by rw [hcl]; exact hbs.len, hcs⟩
  refine LcP.map1 (scaleD (2 + t0)) (by simp) (fun d hd J acc ha hJ => ?_) ?_
  · obtain ⟨l, rfl, hl5, hl⟩ := hgl d hd
    walk_at "w"
    refine LcP.map1 (fun d => .int ((2 + t0) * unI d)) (by rw [List.length_map]; omega) (fun d hd J acc ha hJ => ?_) ?_
    · obtain ⟨x, hx, rfl⟩ := List.mem_map.mp hd
      obtain ⟨hx1, hx2⟩ := hl x hx
      walk_at "w"
      exact hJ
    · walk_at "w"
      exact hJ
  rw [frz_is]
  rw [show List.map (scaleD (2 + t0)) [D.lst false (is bs), D.lst false (is cs)] = [D.lst true (is (bs.map ((2 + t0) * ·))), D.lst true (is (cs.map ((2 + t0) * ·)))] by simp [scaleD, unI_is]; simp [is, unI, Function.comp_def]]
  have hpg := pair_scale (show 0 < 2 + t0 by omega) hpair
  have hX2 : dirD (bs.map ((2 + t0) * ·)) (cs.map ((2 + t0) * ·)) = X := by rw [dirD, dirs_scale (by omega)]; exact hX
  generalize hgb : bs.map ((2 + t0) * ·) = gb at *
  generalize hgc : cs.map ((2 + t0) * ·) = gc at *
  walk_at "w"
  refine ⟨gb, gc, by rw [frz_is, frz_is], hpg, ?_⟩
  rw [hX2]
  walk_at "w"
  refine ⟨bs, cs, rfl, hpair, ?_⟩
  rw [hX]
  walk_at "w"
  refine ⟨.lst false [frz X, frz X], .lst false [frz Y, frz Y], rfl, s1, s2, s3, s4, s5, by decide, s6, ?_⟩
  walk_at "w"
  have hlt : at'.toNat < bs.length := by omega
  obtain ⟨x, hx⟩ : ∃ x, bs[at'.toNat]? = some x := ⟨_, List.getElem?_eq_getElem hlt⟩
  refine ex_some (.int x) (atI_nat hat1 (by rw [List.getElem?_map, hx]; rfl)) ?_
  have ec1 : VL.cutD (is bs) none (some at') = is (bs.take at'.toNat) := by rw [cut_take _ hat1, is, is, List.map_take]
  have ec2 : VL.cutD (is bs) (some (at' + 1)) none = is (bs.drop (at'.toNat + 1)) := by rw [cut_drop _ (by omega), is, is, List.map_drop, show (at' + 1).toNat = at'.toNat + 1 by omega]
  rw [ec1]
  walk_at "w"
  rw [ec2]
  walk_at "w"
  have hll : bs.length - 1 < bs.length := by omega
  obtain ⟨y, hy⟩ : ∃ y, bs[bs.length - 1]? = some y := ⟨_, List.getElem?_eq_getElem hll⟩
  refine ex_some (.int y) ?_ ?_
  · unfold atI ixN
    rw [if_neg (by decide), if_pos (by rw [List.length_map]; omega), List.length_map]
    show (is bs)[((-1 : Int) + (bs.length : Int)).toNat]? = _
    rw [show ((-1 : Int) + (bs.length : Int)).toNat = bs.length - 1 by omega, List.getElem?_map, hy]
    rfl
  walk_at "w"
  obtain ⟨z, hz⟩ : ∃ z, bs[0]? = some z := ⟨_, List.getElem?_eq_getElem hblen⟩
  refine ex_some (.int z) (atI_nat (by decide) (by rw [List.getElem?_map]; show Option.map _ bs[0]? = _; rw [hz]; rfl)) ?_
  have hz1 := hb1 z (List.mem_of_getElem? hz)
  have hzl : z.natAbs.log2 < 1920 := (Nat.log2_lt (by omega)).mpr (Nat.lt_of_lt_of_le (show z.natAbs < 2 ^ 200 by omega) (Nat.pow_le_pow_right (by decide) (by decide)))
  walk_at "w"
  have hA : ∀ d ∈ [D.lst false (is bs), frz (D.lst true (is gb)), D.lst true (is bs).reverse, D.tup (is bs), D.lst true (is (List.take at'.toNat bs) ++ [D.int (x + 1)] ++ is (List.drop (at'.toNat + 1) bs)), D.lst true [], D.non, D.lst true (is bs ++ [D.int 0]), D.lst true (is bs ++ [D.int y])], good d := by
    have hgl : gb.length ≤ 5 := by rw [← hgb, List.length_map]; exact hb5
    rw [frz_is, show (is bs).reverse = is bs.reverse from List.map_reverse.symm, is_snoc, is_snoc, is_snoc, show is (bs.take at'.toNat ++ [x + 1]) ++ is (bs.drop (at'.toNat + 1)) = is (bs.take at'.toNat ++ [x + 1] ++ bs.drop (at'.toNat + 1)) from List.map_append.symm]
    intro d hd
    simp only [List.mem_cons, List.not_mem_nil, or_false] at hd
    rcases hd with rfl | rfl | rfl | rfl | rfl | rfl | rfl | rfl | rfl
    · exact (good_is _ _ (by omega)).1
    · exact (good_is _ _ (by omega)).1
    · exact (good_is _ _ (by simp; omega)).1
    · exact (good_is true _ (by omega)).2
    · exact (good_is _ _ (by simp; omega)).1
    · exact ⟨rfl, rfl⟩
    · exact ⟨rfl, rfl⟩
    · exact (good_is _ _ (by simp; omega)).1
    · exact (good_is _ _ (by simp; omega)).1
  have hB2 : ∀ d ∈ [D.lst true (D.bl true :: is bs), D.lst true (D.int (0 - 1) :: is bs), D.lst true [D.str (Str.ofString (toString z))], D.lst true (VL.cutD (is bs) (some 1) none), D.lst true [D.lst false (is bs)]], good d := by
    rw [cutD_1, show (is bs).drop 1 = is (bs.drop 1) from List.map_drop.symm, show D.int (0 - 1) :: is bs = is ((0 - 1) :: bs) from rfl]
    intro d hd
    simp only [List.mem_cons, List.not_mem_nil, or_false] at hd
    rcases hd with rfl | rfl | rfl | rfl | rfl
    · exact ⟨by simp [shp, shpL, shpL_is], by simp [lenA, lenAL, lenAL_is]; omega⟩
    · exact (good_is _ _ (by simp; omega)).1
    · exact ⟨by simp only [shp, shpL, strOk_of, Bool.and_self], by simp [lenA, lenAL]⟩
    · exact (good_is _ _ (by simp; omega)).1
    · exact ⟨by simp [shp, shpL, shpL_is], by simp [lenA, lenAL, lenAL_is]; omega⟩
  have hV := good_frzL (good_app (good_frzL hA) hB2)
  refine ForP.mk ⟨fun j env => ∃ f W u v, env = [pur a b c e, .lst false (is bs), .lst false (is cs), .str noted, Y, a', .int (2 + t0), .int at', f, W, u, v, .junk, .junk], ⟨_, _, _, _, rfl⟩, ?_, ?_⟩
  · rintro j d env hj ⟨f, W, u, v, rfl⟩
    obtain ⟨hg1, hg2⟩ := hV d (List.mem_of_getElem? hj)
    have hok : okD 55 d := ⟨frz_mem_fz (good_app (good_frzL hA) hB2) (List.mem_of_getElem? hj), shp_up _ _ _ (by decide) hg1⟩
    have hfz := fz_fzA _ hok.1
    have hre := real_fzA hok.1
    walk_at "w"
    refine ⟨d, rfl, hok, hg2, ?_⟩
    walk_at "w"
    refine ⟨d, rfl, hok, hg2, ?_⟩
    walk_at "w"
    refine ⟨d, rfl, hok, hg2, ?_⟩
    generalize harmD d = hh
    walk_at "w"
    refine ⟨.lst false [.bl hh, .bl hh], .lst false [.bl hh, .bl hh], rfl, rfl, rfl, rfl, rfl, rfl, by decide, rfl, ?_⟩
    walk_at "w"
    exact ⟨_, _, _, _, rfl⟩
  rintro env ⟨f, W, u, v, rfl⟩
  walk_at "w"
  refine ⟨shpL_is bs 59, hsh1, hsh2, ?_⟩
  rw [hsn]
  walk_at "w"
  refine if_yes (by simp [eqD]) ?_
  walk_at "w"
  refine if_bl (fun h0 => ?_) (fun h0 => ?_)
  · walk_at "w"
    exact k _ hp4
  have hl2 : bs.length = 2 := by
    have h1 : ((is bs).length : Int) = 2 := by simpa [eqD] using h0
    rw [List.length_map] at h1
    omega
  walk_at "w"
  refine ex_some _ (ints_is cs) ?_
  walk_at "w"
  intro m hm hmx
  walk_at "w"
  refine if_dec (fun h1 => ?_) (fun h1 => ?_)
  · walk_at "w"
    exact k _ hp4
  obtain ⟨b1, b2, rfl⟩ : ∃ b1 b2, bs = [b1, b2] := by
    match bs, hl2 with
    | [b1, b2], _ => exact ⟨b1, b2, rfl⟩
  obtain ⟨c1, c2, rfl⟩ : ∃ c1 c2, cs = [c1, c2] := by
    match cs, hcl.trans hl2 with
    | [c1, c2], _ => exact ⟨c1, c2, rfl⟩
  have q1 := hb1 b1 (by simp)
  have q2 := hb1 b2 (by simp)
  have q3 := hcs c1 (by simp)
  have q4 := hcs c2 (by simp)
  have q5 := hmx c1 (by simp)
  have q6 := hmx c2 (by simp)
  have hdv : b1 ∣ b2 := Int.dvd_of_emod_eq_zero (by have := hbs.chain; simpa [chain] using this)
  have hbb : b2 ≤ 2 ^ 60 := by have := (hbs.bnd 1 b2 rfl).2; omega
  walk_at "w"
  refine ⟨b1, b2, c1, c2, rfl, q1.1, q2.1, hdv, hbb, q3.1, by omega, q4.1, by omega, ?_⟩
  rw [fill_dirs hdv, hB]
  walk_at "w"
  refine ⟨.bl B, .bl B, by rw [hd.non, Bool.not_not]; rfl, rfl, rfl, rfl, rfl, rfl, by decide, rfl, ?_⟩
  walk_at "w"
  exact k _ hp4
end K59
namespace K59
open PySem PySem.Spec PyProof.Rows L2 StX RZ VL
local macro_rules | `(tactic| walk_at "b") => `(tactic| exact big_small (by omega) (by omega))
local macro_rules | `(tactic| walk_at "n") => `(tactic| set_option simprocs false in dsimp only [VL.pb_s, VL.pb_n, VL.pb_0, VL.pb_1, VL.st_0, VL.st_s, VL.gt_0, VL.gt_s, VL.ap_0, VL.ap_s, VL.wp_0, VL.wp_s, VL.bk_0, VL.bk_s, VL.mp_0, VL.mp_s])
local macro_rules | `(tactic| walk_at "w1") => `(tactic| first | refine And.intro rfl ?_ | refine And.intro True.intro ?_ | refine And.intro (Nat.le_of_ble_eq_true rfl) ?_ | refine ex_some _ rfl ?_ | refine And.intro (by (try dsimp only); decide) ?_ | refine And.intro ⟨_, _, rfl⟩ ?_ | refine And.intro (And.intro (by decide) (by walk_at "b")) ?_ | refine And.intro (And.intro (by walk_at "b") (by walk_at "b")) ?_ | refine And.intro (by (try dsimp only); omega) ?_ | refine And.intro (And.intro (by omega) (by walk_at "b")) ?_ | refine And.intro (by simp only [List.length_append, List.length_cons, List.length_nil, List.length_map, List.length_take, List.length_drop, List.length_reverse, List.length_set, List.length_dropLast, List.length_range, List.length_replicate]; omega) ?_ | refine if_yes (by assumption) ?_ | refine And.intro (by assumption) ?_)
local macro_rules | `(tactic| walk_at "w") => `(tactic| ((try walk_at "n"); (repeat ((conv => whnf); (try walk_at "n"); walk_at "w1")) <;> (try (conv => whnf)) <;> (try walk_at "n")))

def sp_law : SpV := fun ds C => ∃ ns : List Int, ds = [.scr ns] ∧ C (.bl true) ds
theorem fn_law {P : Program} {w : World} {K : PySem.W.Frag} {mg : Str → Option Value} {base : Heap} {f : Addr} {fd : FuncData} (hD : DefAt K mg "law" s_law [] f fd) (T : Blt mg) (c__law_purses : CallOk P w K mg base "_law_purses" 2 ["script", "few"] sp__law_purses) (c__law_right : CallOk P w K mg base "_law_right" 11 ["purse"] sp__law_right) : FnV P w K mg base 12 f fd ["script"] sp_law := by
  refine fnv_okJ (k := 11) hD.fn sc_law [0] [.junk, .junk] _ (fun cdv A outer s H E hr => (vss_cons (vs_for PassesOwn.never rfl (vi_any (call c__law_purses (hr.mono (j := 2) (by decide)) (vm_val (nm 0) (vm_val ve_int vm_nil)))) (tg 1 sc_law.nd) (vss_one (vs_for PassesOwn.never rfl (vi_range1 (by rfl) T.range (va_cons ve_int va_nil)) (tg 2 sc_law.nd) (vss_one (vs_if (vt_not (vt_tru (call c__law_right (hr.mono (j := 11) (by decide)) (vm_lend 1 (pv 1) vm_nil)))) (vss_one (vs_ret ve_bl)) vss_nil)) (by decide))) (by decide))
      (vss_one (vs_ret ve_bl)))) rfl ?_
  intro ds C hl h
  obtain ⟨ns, rfl, k⟩ := h
  walk_at "w"
  refine ⟨ns, 3, rfl, by decide, fun ps hps hlen => ?_⟩
  walk_at "w"
  refine ForP.mk ⟨fun j env => ∃ x y, env = [.scr ns, x, y], ⟨_, _, rfl⟩, ?_, ?_⟩
  · rintro j d env hj ⟨x, y, rfl⟩
    have hp := hps d (List.mem_of_getElem? hj)
    walk_at "w"
    refine ForP.mk ⟨fun j env => ∃ x y, env = [.scr ns, x, y] ∧ PurD (2 ^ 59 - 400 * (j : Nat)) x, ⟨_, _, rfl, hp.less (by omega)⟩, ?_, ?_⟩
    · rintro i d env hi ⟨x, y, rfl, hp⟩
      obtain ⟨hj1, rfl⟩ := rngD_get hi
      have hp0 := hp
      obtain ⟨a, b, c, e, rfl, -⟩ := hp0
      walk_at "w"
      refine ⟨_, 2 ^ 59 - 400 * (i : Nat) - 400, rfl, by omega, hp.less (by omega), fun p' hp' => ?_⟩
      walk_at "w"
      exact ⟨_, _, rfl, hp'.less (by omega)⟩
    · rintro env ⟨x, y, rfl, hp⟩
      walk_at "w"
      exact ⟨_, _, rfl⟩
  · rintro env ⟨x, y, rfl⟩
    walk_at "w"
    exact k
theorem law_any (ns : List Int) (C : D → List D → Prop) (hl : ns.length ≤ 63) (k : C (.bl true) [.scr ns]) : sp_law [.scr ns] C := ⟨ns, rfl, k⟩
theorem no__law_orders (ds : List D) (C : D → List D → Prop) : ¬ sp__law_orders 0 ds C := fun ⟨l, _, h, _⟩ => absurd h (Nat.not_lt_zero _)
theorem no__law_same (ds : List D) (C : D → List D → Prop) : ¬ sp__law_same 0 ds C := fun h => h
theorem no__law_spoilt (ds : List D) (C : D → List D → Prop) : ¬ sp__law_spoilt 0 ds C := fun h => h
theorem all_mk {l : PySem.W.OpenLaw} {w : World} {K : PySem.W.Frag} {h : Heap} {mg : Str → Option Value} {fa : Addr}  (X : K.In h) (G : h.Ns mainGlobals mg) (hfa : mg "law" = some (.ref fa)) (B : BltF K)
    (d__law_purse : DefF K "_law_purse" s__law_purse [])
    (d__law_purses : DefF K "_law_purses" s__law_purses [])
    (d__law_mixed : DefF K "_law_mixed" s__law_mixed [])
    (d__law_draw : DefF K "_law_draw" s__law_draw [])
    (d__law_one_of : DefF K "_law_one_of" s__law_one_of [])
    (d__law_brick : DefF K "_law_brick" s__law_brick [])
    (d__law_orders : DefF K "_law_orders" s__law_orders [])
    (d__law_directions : DefF K "_law_directions" s__law_directions [])
    (d__law_spoilt : DefF K "_law_spoilt" s__law_spoilt [])
    (d__law_shuffled : DefF K "_law_shuffled" s__law_shuffled [])
    (d__law_chest : DefF K "_law_chest" s__law_chest [])
    (d_is_whole : DefF K "is_whole" s_is_whole [])
    (d_is_count : DefF K "is_count" s_is_count [.int 0])
    (d_are_sides : DefF K "are_sides" s_are_sides [])
    (d_is_harmonic : DefF K "is_harmonic" s_is_harmonic [])
    (d_check_harmonic : DefF K "check_harmonic" s_check_harmonic [])
    (d_directions_for : DefF K "directions_for" s_directions_for [])
    (d__law_same : DefF K "_law_same" s__law_same [])
    (d__law_is_count : DefF K "_law_is_count" s__law_is_count [])
    (d__law_is_harmonic : DefF K "_law_is_harmonic" s__law_is_harmonic [])
    (d_is_tuple_of : DefF K "is_tuple_of" s_is_tuple_of [])
    (d_is_sided : DefF K "is_sided" s_is_sided [])
    (d_check_floor : DefF K "check_floor" s_check_floor [])
    (d_check_brick : DefF K "check_brick" s_check_brick [])
    (d_sum_there : DefF K "sum_there" s_sum_there [])
    (d_does_fill_there : DefF K "does_fill_there" s_does_fill_there [])
    (d_does_fill : DefF K "does_fill" s_does_fill [])
    (d_does_fill_chest : DefF K "does_fill_chest" s_does_fill_chest [])
    (d__law_right : DefF K "_law_right" s__law_right [])
    (d_law : DefF K "law" s_law [])
    : ∃ fd : FuncData, (∀ (s : Shared) (u : Value), BindsTo s fd ⟨[u], []⟩ [("script", u)]) ∧ ∀ base : Heap, K.In base → base.Ns mainGlobals mg → FnG l.prog w K mg base 12 fa fd ["script"] (toSp K 1 sp_law) := by
  have T := B.blt X G
  obtain ⟨f__law_purse, fd__law_purse, D__law_purse⟩ := d__law_purse.at' X G
  obtain ⟨f__law_purses, fd__law_purses, D__law_purses⟩ := d__law_purses.at' X G
  obtain ⟨f__law_mixed, fd__law_mixed, D__law_mixed⟩ := d__law_mixed.at' X G
  obtain ⟨f__law_draw, fd__law_draw, D__law_draw⟩ := d__law_draw.at' X G
  obtain ⟨f__law_one_of, fd__law_one_of, D__law_one_of⟩ := d__law_one_of.at' X G
  obtain ⟨f__law_brick, fd__law_brick, D__law_brick⟩ := d__law_brick.at' X G
  obtain ⟨f__law_orders, fd__law_orders, D__law_orders⟩ := d__law_orders.at' X G
  obtain ⟨f__law_directions, fd__law_directions, D__law_directions⟩ := d__law_directions.at' X G
  obtain ⟨f__law_spoilt, fd__law_spoilt, D__law_spoilt⟩ := d__law_spoilt.at' X G
  obtain ⟨f__law_shuffled, fd__law_shuffled, D__law_shuffled⟩ := d__law_shuffled.at' X G
  obtain ⟨f__law_chest, fd__law_chest, D__law_chest⟩ := d__law_chest.at' X G
  obtain ⟨f_is_whole, fd_is_whole, D_is_whole⟩ := d_is_whole.at' X G
  obtain ⟨f_is_count, fd_is_count, D_is_count⟩ := d_is_count.at' X G
  obtain ⟨f_are_sides, fd_are_sides, D_are_sides⟩ := d_are_sides.at' X G
  obtain ⟨f_is_harmonic, fd_is_harmonic, D_is_harmonic⟩ := d_is_harmonic.at' X G
  obtain ⟨f_check_harmonic, fd_check_harmonic, D_check_harmonic⟩ := d_check_harmonic.at' X G
  obtain ⟨f_directions_for, fd_directions_for, D_directions_for⟩ := d_directions_for.at' X G
  obtain ⟨f__law_same, fd__law_same, D__law_same⟩ := d__law_same.at' X G
  obtain ⟨f__law_is_count, fd__law_is_count, D__law_is_count⟩ := d__law_is_count.at' X G
  obtain ⟨f__law_is_harmonic, fd__law_is_harmonic, D__law_is_harmonic⟩ := d__law_is_harmonic.at' X G
  obtain ⟨f_is_tuple_of, fd_is_tuple_of, D_is_tuple_of⟩ := d_is_tuple_of.at' X G
  obtain ⟨f_is_sided, fd_is_sided, D_is_sided⟩ := d_is_sided.at' X G
  obtain ⟨f_check_floor, fd_check_floor, D_check_floor⟩ := d_check_floor.at' X G
  obtain ⟨f_check_brick, fd_check_brick, D_check_brick⟩ := d_check_brick.at' X G
  obtain ⟨f_sum_there, fd_sum_there, D_sum_there⟩ := d_sum_there.at' X G
  obtain ⟨f_does_fill_there, fd_does_fill_there, D_does_fill_there⟩ := d_does_fill_there.at' X G
  obtain ⟨f_does_fill, fd_does_fill, D_does_fill⟩ := d_does_fill.at' X G
  obtain ⟨f_does_fill_chest, fd_does_fill_chest, D_does_fill_chest⟩ := d_does_fill_chest.at' X G
  obtain ⟨f__law_right, fd__law_right, D__law_right⟩ := d__law_right.at' X G
  obtain ⟨f_law, fd_law, D_law⟩ := d_law.at' X G
  obtain rfl : f_law = fa := by have e := D_law.at'.symm.trans hfa; cases e; rfl
  refine ⟨fd_law, D_law.binds1 (fun _ _ _ _ _ _ _ => rfl), fun base _ _ => ?_⟩
  have F__law_purse := fn__law_purse (P := l.prog) (w := w) (base := base) D__law_purse T 
  have c__law_purse : CallOk l.prog w K mg base "_law_purse" 1 ["script", "at"] sp__law_purse := D__law_purse.call F__law_purse (fun _ _ _ _ _ _ us hl => match us, hl with | [_, _], _ => rfl)
  have F__law_purses := fn__law_purses (P := l.prog) (w := w) (base := base) D__law_purses T c__law_purse
  have c__law_purses : CallOk l.prog w K mg base "_law_purses" 2 ["script", "few"] sp__law_purses := D__law_purses.call F__law_purses (fun _ _ _ _ _ _ us hl => match us, hl with | [_, _], _ => rfl)
  have F__law_mixed := fn__law_mixed (P := l.prog) (w := w) (base := base) D__law_mixed T 
  have c__law_mixed : CallOk l.prog w K mg base "_law_mixed" 1 ["seed", "spin", "at"] sp__law_mixed := D__law_mixed.call F__law_mixed (fun _ _ _ _ _ _ us hl => match us, hl with | [_, _, _], _ => rfl)
  have F__law_draw := fn__law_draw (P := l.prog) (w := w) (base := base) D__law_draw T c__law_mixed
  have c__law_draw : CallOk l.prog w K mg base "_law_draw" 2 ["purse", "many"] sp__law_draw := D__law_draw.call F__law_draw (fun _ _ _ _ _ _ us hl => match us, hl with | [_, _], _ => rfl)
  have F__law_one_of := fn__law_one_of (P := l.prog) (w := w) (base := base) D__law_one_of T c__law_draw
  have c__law_one_of : CallOk l.prog w K mg base "_law_one_of" 3 ["purse", "some"] sp__law_one_of := D__law_one_of.call F__law_one_of (fun _ _ _ _ _ _ us hl => match us, hl with | [_, _], _ => rfl)
  have F__law_brick := fn__law_brick (P := l.prog) (w := w) (base := base) D__law_brick T c__law_one_of c__law_draw
  have c__law_brick : CallOk l.prog w K mg base "_law_brick" 4 ["purse"] sp__law_brick := D__law_brick.call F__law_brick (fun _ _ _ _ _ _ us hl => match us, hl with | [_], _ => rfl)
  have r__law_orders : ∀ n, CallOk l.prog w K mg base "_law_orders" (0 + n) ["some"] (sp__law_orders n) := fun n => by
    induction n with
    | zero => exact D__law_orders.call (fnv_none no__law_orders) (fun _ _ _ _ _ _ us hl => match us, hl with | [_], _ => rfl)
    | succ n ih => exact step__law_orders D__law_orders T  ih
  have c__law_orders := r__law_orders 9
  have F__law_directions := fn__law_directions (P := l.prog) (w := w) (base := base) D__law_directions T c__law_orders
  have c__law_directions : CallOk l.prog w K mg base "_law_directions" 10 ["brick", "chest"] sp__law_directions := D__law_directions.call F__law_directions (fun _ _ _ _ _ _ us hl => match us, hl with | [_, _], _ => rfl)
  have r__law_spoilt : ∀ n, CallOk l.prog w K mg base "_law_spoilt" (0 + n) ["thing"] (sp__law_spoilt n) := fun n => by
    induction n with
    | zero => exact D__law_spoilt.call (fnv_none no__law_spoilt) (fun _ _ _ _ _ _ us hl => match us, hl with | [_], _ => rfl)
    | succ n ih => exact step__law_spoilt D__law_spoilt T  ih
  have c__law_spoilt := r__law_spoilt 9
  have F__law_shuffled := fn__law_shuffled (P := l.prog) (w := w) (base := base) D__law_shuffled T c__law_draw
  have c__law_shuffled : CallOk l.prog w K mg base "_law_shuffled" 3 ["purse", "some"] sp__law_shuffled := D__law_shuffled.call F__law_shuffled (fun _ _ _ _ _ _ us hl => match us, hl with | [_, _], _ => rfl)
  have F__law_chest := fn__law_chest (P := l.prog) (w := w) (base := base) D__law_chest T c__law_one_of c__law_draw c__law_shuffled
  have c__law_chest : CallOk l.prog w K mg base "_law_chest" 4 ["purse", "brick"] sp__law_chest := D__law_chest.call F__law_chest (fun _ _ _ _ _ _ us hl => match us, hl with | [_, _], _ => rfl)
  have F_is_whole := fn_is_whole (P := l.prog) (w := w) (base := base) D_is_whole T 
  have c_is_whole : CallOk l.prog w K mg base "is_whole" 1 ["value"] sp_is_whole := D_is_whole.call F_is_whole (fun _ _ _ _ _ _ us hl => match us, hl with | [_], _ => rfl)
  have F_is_count := fn_is_count (P := l.prog) (w := w) (base := base) D_is_count T c_is_whole
  have c_is_count : CallOk l.prog w K mg base "is_count" 2 ["value", "least"] sp_is_count := D_is_count.callD F_is_count (by decide) (fun _ _ _ _ _ _ _ us its hl hl2 => match us, hl, its, hl2 with | [_, _], _, [_], _ => ⟨_, rfl, rfl⟩)
  have F_are_sides := fn_are_sides (P := l.prog) (w := w) (base := base) D_are_sides T c_is_count
  have c_are_sides : CallOk l.prog w K mg base "are_sides" 3 ["value"] sp_are_sides := D_are_sides.call F_are_sides (fun _ _ _ _ _ _ us hl => match us, hl with | [_], _ => rfl)
  have F_is_harmonic := fn_is_harmonic (P := l.prog) (w := w) (base := base) D_is_harmonic T c_are_sides
  have c_is_harmonic : CallOk l.prog w K mg base "is_harmonic" 4 ["value"] sp_is_harmonic := D_is_harmonic.call F_is_harmonic (fun _ _ _ _ _ _ us hl => match us, hl with | [_], _ => rfl)
  have ck_is_harmonic : CallKw l.prog w K mg base "is_harmonic" 4 ["value"] ["value"] [0] sp_is_harmonic := D_is_harmonic.callKw F_is_harmonic (by decide) rfl (fun _ _ _ _ _ _ us hl => match us, hl with | [_], _ => rfl)
  have F_check_harmonic := fn_check_harmonic (P := l.prog) (w := w) (base := base) D_check_harmonic T c_is_harmonic c_are_sides
  have c_check_harmonic : CallOk l.prog w K mg base "check_harmonic" 5 ["brick", "chest"] sp_check_harmonic := D_check_harmonic.call F_check_harmonic (fun _ _ _ _ _ _ us hl => match us, hl with | [_, _], _ => rfl)
  have F_directions_for := fn_directions_for (P := l.prog) (w := w) (base := base) D_directions_for T c_check_harmonic
  have c_directions_for : CallOk l.prog w K mg base "directions_for" 6 ["brick", "chest"] sp_directions_for := D_directions_for.call F_directions_for (fun _ _ _ _ _ _ us hl => match us, hl with | [_, _], _ => rfl)
  have ck_directions_for : CallKw l.prog w K mg base "directions_for" 6 ["brick", "chest"] ["chest", "brick"] [1, 0] sp_directions_for := D_directions_for.callKw F_directions_for (by decide) rfl (fun _ _ _ _ _ _ us hl => match us, hl with | [_, _], _ => rfl)
  have r__law_same : ∀ n, CallOk l.prog w K mg base "_law_same" (0 + n) ["told", "due"] (sp__law_same n) := fun n => by
    induction n with
    | zero => exact D__law_same.call (fnv_none no__law_same) (fun _ _ _ _ _ _ us hl => match us, hl with | [_, _], _ => rfl)
    | succ n ih => exact step__law_same D__law_same T  ih
  have c__law_same := r__law_same 9
  have F__law_is_count := fn__law_is_count (P := l.prog) (w := w) (base := base) D__law_is_count T 
  have c__law_is_count : CallOk l.prog w K mg base "_law_is_count" 1 ["value"] sp__law_is_count := D__law_is_count.call F__law_is_count (fun _ _ _ _ _ _ us hl => match us, hl with | [_], _ => rfl)
  have F__law_is_harmonic := fn__law_is_harmonic (P := l.prog) (w := w) (base := base) D__law_is_harmonic T c__law_is_count
  have c__law_is_harmonic : CallOk l.prog w K mg base "_law_is_harmonic" 2 ["value"] sp__law_is_harmonic := D__law_is_harmonic.call F__law_is_harmonic (fun _ _ _ _ _ _ us hl => match us, hl with | [_], _ => rfl)
  have F_is_tuple_of := fn_is_tuple_of (P := l.prog) (w := w) (base := base) D_is_tuple_of T 
  have c_is_tuple_of : CallOk l.prog w K mg base "is_tuple_of" 1 ["value", "size"] sp_is_tuple_of := D_is_tuple_of.call F_is_tuple_of (fun _ _ _ _ _ _ us hl => match us, hl with | [_, _], _ => rfl)
  have F_is_sided := fn_is_sided (P := l.prog) (w := w) (base := base) D_is_sided T c_is_count c_is_tuple_of
  have c_is_sided : CallOk l.prog w K mg base "is_sided" 3 ["value"] sp_is_sided := D_is_sided.call F_is_sided (fun _ _ _ _ _ _ us hl => match us, hl with | [_], _ => rfl)
  have F_check_floor := fn_check_floor (P := l.prog) (w := w) (base := base) D_check_floor T c_is_sided
  have c_check_floor : CallOk l.prog w K mg base "check_floor" 4 ["floor"] sp_check_floor := D_check_floor.call F_check_floor (fun _ _ _ _ _ _ us hl => match us, hl with | [_], _ => rfl)
  have F_check_brick := fn_check_brick (P := l.prog) (w := w) (base := base) D_check_brick T c_is_sided c_check_floor
  have c_check_brick : CallOk l.prog w K mg base "check_brick" 5 ["brick", "floor"] sp_check_brick := D_check_brick.call F_check_brick (fun _ _ _ _ _ _ us hl => match us, hl with | [_, _], _ => rfl)
  have F_sum_there := fn_sum_there (P := l.prog) (w := w) (base := base) D_sum_there T 
  have c_sum_there : CallOk l.prog w K mg base "sum_there" 1 ["brick", "side"] sp_sum_there := D_sum_there.call F_sum_there (fun _ _ _ _ _ _ us hl => match us, hl with | [_, _], _ => rfl)
  have F_does_fill_there := fn_does_fill_there (P := l.prog) (w := w) (base := base) D_does_fill_there T c_sum_there
  have c_does_fill_there : CallOk l.prog w K mg base "does_fill_there" 2 ["brick", "floor"] sp_does_fill_there := D_does_fill_there.call F_does_fill_there (fun _ _ _ _ _ _ us hl => match us, hl with | [_, _], _ => rfl)
  have F_does_fill := fn_does_fill (P := l.prog) (w := w) (base := base) D_does_fill T c_check_brick c_does_fill_there
  have c_does_fill : CallOk l.prog w K mg base "does_fill" 6 ["brick", "floor"] sp_does_fill := D_does_fill.call F_does_fill (fun _ _ _ _ _ _ us hl => match us, hl with | [_, _], _ => rfl)
  have F_does_fill_chest := fn_does_fill_chest (P := l.prog) (w := w) (base := base) D_does_fill_chest T c_directions_for
  have ck_does_fill_chest : CallKw l.prog w K mg base "does_fill_chest" 7 ["brick", "chest"] ["chest", "brick"] [1, 0] sp_does_fill_chest := D_does_fill_chest.callKw F_does_fill_chest (by decide) rfl (fun _ _ _ _ _ _ us hl => match us, hl with | [_, _], _ => rfl)
  have c_does_fill_chest : CallOk l.prog w K mg base "does_fill_chest" 7 ["brick", "chest"] sp_does_fill_chest := D_does_fill_chest.call F_does_fill_chest (fun _ _ _ _ _ _ us hl => match us, hl with | [_, _], _ => rfl)
  have F__law_right := fn__law_right (P := l.prog) (w := w) (base := base) D__law_right T c__law_brick c__law_chest c__law_directions ck_directions_for c_directions_for ck_does_fill_chest c_does_fill_chest c__law_same c__law_spoilt c__law_draw c__law_is_harmonic ck_is_harmonic c_is_harmonic c_does_fill
  have c__law_right : CallOk l.prog w K mg base "_law_right" 11 ["purse"] sp__law_right := D__law_right.call F__law_right (fun _ _ _ _ _ _ us hl => match us, hl with | [_], _ => rfl)
  exact fn_law D_law T c__law_purses c__law_right
end K59
open PySem PySem.W PyProof.Rows
set_option maxHeartbeats 0 in
theorem PySem.Challenge.cw_filledup_k59_whole_harmonic_bricks_of_gr_holds : PySem.Challenge.rw_filledup_k59_whole_harmonic_bricks_of_gr.Holds := by
  w_on; o_law; k_head; (case hw => w_witness2)
  k_fill
  refine VL.law_end (l := PySem.Challenge.rw_filledup_k59_whole_harmonic_bricks_of_gr) (n := 63) (k := 12) (x := "script") (sp := fun w => VL.toSp _ 1 K59.sp_law) rfl (by decide) rfl ⟨rfl, by decide, by decide⟩ (fun w h Y => PySem.W.kIn_of Y) ?F (fun _ _ a ns hl hS => VL.law_sp hS fun C k => K59.law_any ns C hl k)
  case F =>
    intro w mg fa h KX G hmg
    refine K59.all_mk KX G hmg ⟨?z0, ?z1, ?z2, ?z3, ?z4, ?z5, ?z6, ?z7, ?z8, ?z9, ?z10, ?z11, ?z12, ?z13, ?z14, ?z15, ?z16, ?z17, ?z18, ?z19, ?z20⟩ ?d__law_purse ?d__law_purses ?d__law_mixed ?d__law_draw ?d__law_one_of ?d__law_brick ?d__law_orders ?d__law_directions ?d__law_spoilt ?d__law_shuffled ?d__law_chest ?d_is_whole ?d_is_count ?d_are_sides ?d_is_harmonic ?d_check_harmonic ?d_directions_for ?d__law_same ?d__law_is_count ?d__law_is_harmonic ?d_is_tuple_of ?d_is_sided ?d_check_floor ?d_check_brick ?d_sum_there ?d_does_fill_there ?d_does_fill ?d_does_fill_chest ?d__law_right ?d_law 
    (case z0 => k_is)
    (case z1 => k_is)
    (case z2 => k_is)
    (case z3 => k_is)
    (case z4 => k_is)
    (case z5 => k_is)
    (case z6 => k_is)
    (case z7 => k_is)
    (case z8 => k_is)
    (case z9 => k_is)
    (case z10 => k_is)
    (case z11 => k_is)
    (case z12 => k_is)
    (case z13 => k_is)
    (case z14 => k_is)
    (case z15 => k_is)
    (case z16 => k_is)
    (case z17 => k_is)
    (case z18 => k_is)
    (case z19 => k_is)
    (case z20 => k_is)
    (case d__law_purse => refine' VL.defF ?a ?l ?c ?k; (case a => k_is); (case l => k_is); (case c => k_is); (case k => k_is))
    (case d__law_purses => refine' VL.defF ?a ?l ?c ?k; (case a => k_is); (case l => k_is); (case c => k_is); (case k => k_is))
    (case d__law_mixed => refine' VL.defF ?a ?l ?c ?k; (case a => k_is); (case l => k_is); (case c => k_is); (case k => k_is))
    (case d__law_draw => refine' VL.defF ?a ?l ?c ?k; (case a => k_is); (case l => k_is); (case c => k_is); (case k => k_is))
    (case d__law_one_of => refine' VL.defF ?a ?l ?c ?k; (case a => k_is); (case l => k_is); (case c => k_is); (case k => k_is))
    (case d__law_brick => refine' VL.defF ?a ?l ?c ?k; (case a => k_is); (case l => k_is); (case c => k_is); (case k => k_is))
    (case d__law_orders => refine' VL.defF ?a ?l ?c ?k; (case a => k_is); (case l => k_is); (case c => k_is); (case k => k_is))
    (case d__law_directions => refine' VL.defF ?a ?l ?c ?k; (case a => k_is); (case l => k_is); (case c => k_is); (case k => k_is))
    (case d__law_spoilt => refine' VL.defF ?a ?l ?c ?k; (case a => k_is); (case l => k_is); (case c => k_is); (case k => k_is))
    (case d__law_shuffled => refine' VL.defF ?a ?l ?c ?k; (case a => k_is); (case l => k_is); (case c => k_is); (case k => k_is))
    (case d__law_chest => refine' VL.defF ?a ?l ?c ?k; (case a => k_is); (case l => k_is); (case c => k_is); (case k => k_is))
    (case d_is_whole => refine' VL.defF ?a ?l ?c ?k; (case a => k_is); (case l => k_is); (case c => k_is); (case k => k_is))
    (case d_is_count => refine' VL.defFd _ [Value.int 0 _] (by decide) (.cons ⟨_, rfl⟩ .nil) ?a ?l ?t ?u ?c ?k; (case a => k_is); (case l => k_is); (case t => k_is); (case u => rfl); (case c => k_is); (case k => k_is))
    (case d_are_sides => refine' VL.defF ?a ?l ?c ?k; (case a => k_is); (case l => k_is); (case c => k_is); (case k => k_is))
    (case d_is_harmonic => refine' VL.defF ?a ?l ?c ?k; (case a => k_is); (case l => k_is); (case c => k_is); (case k => k_is))
    (case d_check_harmonic => refine' VL.defF ?a ?l ?c ?k; (case a => k_is); (case l => k_is); (case c => k_is); (case k => k_is))
    (case d_directions_for => refine' VL.defF ?a ?l ?c ?k; (case a => k_is); (case l => k_is); (case c => k_is); (case k => k_is))
    (case d__law_same => refine' VL.defF ?a ?l ?c ?k; (case a => k_is); (case l => k_is); (case c => k_is); (case k => k_is))
    (case d__law_is_count => refine' VL.defF ?a ?l ?c ?k; (case a => k_is); (case l => k_is); (case c => k_is); (case k => k_is))
    (case d__law_is_harmonic => refine' VL.defF ?a ?l ?c ?k; (case a => k_is); (case l => k_is); (case c => k_is); (case k => k_is))
    (case d_is_tuple_of => refine' VL.defF ?a ?l ?c ?k; (case a => k_is); (case l => k_is); (case c => k_is); (case k => k_is))
    (case d_is_sided => refine' VL.defF ?a ?l ?c ?k; (case a => k_is); (case l => k_is); (case c => k_is); (case k => k_is))
    (case d_check_floor => refine' VL.defF ?a ?l ?c ?k; (case a => k_is); (case l => k_is); (case c => k_is); (case k => k_is))
    (case d_check_brick => refine' VL.defF ?a ?l ?c ?k; (case a => k_is); (case l => k_is); (case c => k_is); (case k => k_is))
    (case d_sum_there => refine' VL.defF ?a ?l ?c ?k; (case a => k_is); (case l => k_is); (case c => k_is); (case k => k_is))
    (case d_does_fill_there => refine' VL.defF ?a ?l ?c ?k; (case a => k_is); (case l => k_is); (case c => k_is); (case k => k_is))
    (case d_does_fill => refine' VL.defF ?a ?l ?c ?k; (case a => k_is); (case l => k_is); (case c => k_is); (case k => k_is))
    (case d_does_fill_chest => refine' VL.defF ?a ?l ?c ?k; (case a => k_is); (case l => k_is); (case c => k_is); (case k => k_is))
    (case d__law_right => refine' VL.defF ?a ?l ?c ?k; (case a => k_is); (case l => k_is); (case c => k_is); (case k => k_is))
    (case d_law => refine' VL.defF ?a ?l ?c ?k; (case a => k_is); (case l => k_is); (case c => k_is); (case k => k_is))
