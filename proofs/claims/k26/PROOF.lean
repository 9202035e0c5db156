import PyProof.Rows.All
import Wide.All
import OpenK.AllK
import Wide.FinOn
import HandS.ForMost
import HandS.Evl
import HandS.IsInst
import HandS.Wide
import HandS.More
import HandS.SetFor
import HandS.SortInts
import HandS.TupSets
import HandS.ExcOwn
import HandS.ExcIs
import HandS.WordsExc
import HandS.TryOnly
import HandS.TupLe
import HandS.Style
import HandS.WideBits
import HandS.Text
import PySem.Challenge.RW_bearerwise_k26_upper_sender
set_option Elab.async false
set_option linter.all false
set_option maxRecDepth 100000
set_option synthInstance.maxSize 1000
set_option synthInstance.maxHeartbeats 400000
set_option Elab.async false
set_option linter.all false
set_option maxRecDepth 100000
namespace Mr
open PySem PySem.Spec PyProof.Rows L2

/-! ### heaps -/
def Ex (H H' : Hp) : Prop := ∀ a o, H a = some o → H' a = some o
theorem Ex.refl (H : Hp) : Ex H H := fun _ _ h => h
theorem Ex.trans {H H1 H2 : Hp} (a : Ex H H1) (b : Ex H1 H2) : Ex H H2 := fun x o h => b x o (a x o h)
theorem Ex.new {H : Hp} {p : Addr} {o : HO} (h : H p = none) : Ex H (upd H p o) := fun a u e => by
  rw [upd_ne (ne_of_none e h)]
  exact e
theorem Ex.rd {H H' : Hp} {a : Addr} {u : HO} (e : Ex H H') (h : Rd H a u) : Rd H' a u := by
  rcases h with h | ⟨o, h⟩
  · exact Or.inl (e a _ h)
  · exact Or.inr ⟨o, e a _ h⟩
theorem Ex.sl {K : PySem.W.Frag} {H H' : Hp} {a : Addr} {xs : List V} (e : Ex H H') (h : SqL K H a xs) : SqL K H' a xs := by
  rcases h with h | h
  · exact Or.inl (e.rd h)
  · exact Or.inr h
theorem Ex.st {K : PySem.W.Frag} {H H' : Hp} {a : Addr} {xs : List V} (e : Ex H H') (h : SqT K H a xs) : SqT K H' a xs := by
  rcases h with h | h
  · exact Or.inl (e.rd h)
  · exact Or.inr h

/-! ### pure data: lists that stay in the heap G, tuples, scalars -/
mutual
inductive Dq (K : PySem.W.Frag) (G : Hp) : V → PyData → Prop
  | non : Dq K G .non .none
  | bl (b : Bool) : Dq K G (.bl b) (.bool b)
  | int (i : Int) : Dq K G (.int i) (.int i)
  | str (x : Str) : Dq K G (.str x) (.str x)
  | lst {a : Addr} {xs : List V} {ds : List PyData} : G a = some (.lst xs) → DqAll K G xs ds → Dq K G (.ref a) (.list ds)
  | tup {a : Addr} {xs : List V} {ds : List PyData} : SqT K G a xs → DqAll K G xs ds → Dq K G (.ref a) (.tuple ds)
inductive DqAll (K : PySem.W.Frag) (G : Hp) : List V → List PyData → Prop
  | nil : DqAll K G [] []
  | cons {v : V} {vs : List V} {d : PyData} {ds : List PyData} : Dq K G v d → DqAll K G vs ds → DqAll K G (v :: vs) (d :: ds)
end
section
variable {K : PySem.W.Frag} {G G' H : Hp}
mutual
theorem Dq.mono (e : Ex G G') : ∀ (d : PyData) (v : V), Dq K G v d → Dq K G' v d
  | .none, _, h => by cases h; exact .non
  | .bool b, _, h => by cases h; exact .bl b
  | .int i, _, h => by cases h; exact .int i
  | .str x, _, h => by cases h; exact .str x
  | .list ds, _, h => by
    cases h with
    | lst h1 h2 => exact .lst (e _ _ h1) (DqAll.mono e ds _ h2)
  | .tuple ds, _, h => by
    cases h with
    | tup h1 h2 => exact .tup (e.st h1) (DqAll.mono e ds _ h2)
  | .dict _, _, h => by cases h
theorem DqAll.mono (e : Ex G G') : ∀ (ds : List PyData) (vs : List V), DqAll K G vs ds → DqAll K G' vs ds
  | [], _, h => by cases h; exact .nil
  | d :: ds, _, h => by
    cases h with
    | cons h1 h2 => exact .cons (Dq.mono e d _ h1) (DqAll.mono e ds _ h2)
end
mutual
theorem Dq.dp : ∀ (d : PyData) (v : V), Dq K G v d → Dp K G v d
  | .none, _, h => by cases h; exact .non
  | .bool b, _, h => by cases h; exact .bl b
  | .int i, _, h => by cases h; exact .int i
  | .str x, _, h => by cases h; exact .str x
  | .list ds, _, h => by
    cases h with
    | lst h1 h2 => exact .lst (.inl (.inl h1)) (DqAll.dp ds _ h2)
  | .tuple ds, _, h => by
    cases h with
    | tup h1 h2 => exact .tup h1 (DqAll.dp ds _ h2)
  | .dict _, _, h => by cases h
theorem DqAll.dp : ∀ (ds : List PyData) (vs : List V), DqAll K G vs ds → DpAll K G vs ds
  | [], _, h => by cases h; exact .nil
  | d :: ds, _, h => by
    cases h with
    | cons h1 h2 => exact .cons (Dq.dp d _ h1) (DqAll.dp ds _ h2)
end
theorem DqAll.len : ∀ {ds : List PyData} {vs : List V}, DqAll K G vs ds → vs.length = ds.length
  | [], _, h => by cases h; rfl
  | d :: ds, _, h => by
    cases h with
    | cons h1 h2 => exact congrArg (· + 1) h2.len
theorem DqAll.get : ∀ {ds : List PyData} {vs : List V} {i : Nat} {d : PyData}, DqAll K G vs ds → ds[i]? = some d → ∃ v, vs[i]? = some v ∧ Dq K G v d
  | [], _, _, _, h, e => by simp at e
  | d :: ds, _, 0, _, h, e => by
    cases h with
    | cons h1 h2 => simp at e; subst e; exact ⟨_, rfl, h1⟩
  | d :: ds, _, i + 1, _, h, e => by
    cases h with
    | cons h1 h2 =>
      obtain ⟨v, a, b⟩ := h2.get (i := i) (by simpa using e)
      exact ⟨v, by simpa using a, b⟩
theorem DqAll.append : ∀ {ds es : List PyData} {vs us : List V}, DqAll K G vs ds → DqAll K G us es → DqAll K G (vs ++ us) (ds ++ es)
  | [], _, _, _, h, q => by cases h; exact q
  | d :: ds, _, _, _, h, q => by
    cases h with
    | cons h1 h2 => exact .cons h1 (h2.append q)
theorem DqAll.take : ∀ {ds : List PyData} {vs : List V} (n : Nat), DqAll K G vs ds → DqAll K G (vs.take n) (ds.take n)
  | _, _, 0, _ => .nil
  | [], _, _ + 1, h => by cases h; exact .nil
  | d :: ds, _, n + 1, h => by
    cases h with
    | cons h1 h2 => exact .cons h1 (h2.take n)
theorem DqAll.drop : ∀ {ds : List PyData} {vs : List V} (n : Nat), DqAll K G vs ds → DqAll K G (vs.drop n) (ds.drop n)
  | _, _, 0, h => h
  | [], _, _ + 1, h => by cases h; exact .nil
  | d :: ds, _, n + 1, h => by
    cases h with
    | cons h1 h2 => exact h2.drop n
end

/-! ### assertions: what stands at a value; F the addresses that it owns -/
structure OA where
  P : Hp → Hp → V → List Addr → Prop
  mono : ∀ {G H G' H' : Hp} {v : V} {F : List Addr}, P G H v F → Ex G G' → Ex G' H' → (∀ b ∈ F, ∀ o, H b = some o → H' b = some o) → P G' H' v F
/-- the cells of a list of assertions at a list of values -/
def Cs (G H : Hp) : List (Option OA) → List (Option V) → List Addr → Prop
  | [], [], F => F = []
  | none :: ρ, _ :: σ, F => Cs G H ρ σ F
  | some A :: ρ, x :: σ, F => ∃ v F1 F2, x = some v ∧ F = F1 ++ F2 ∧ A.P G H v F1 ∧ Cs G H ρ σ F2
  | _, _, _ => False
theorem Cs.mono {G H G' H' : Hp} (e : Ex G G') (e' : Ex G' H') : ∀ {ρ : List (Option OA)} {σ : List (Option V)} {F : List Addr}, Cs G H ρ σ F → (∀ b ∈ F, ∀ o, H b = some o → H' b = some o) → Cs G' H' ρ σ F
  | [], [], _, h, _ => h
  | [], _ :: _, _, h, _ => h.elim
  | none :: _, [], _, h, _ => h.elim
  | some _ :: _, [], _, h, _ => h.elim
  | none :: ρ, _ :: σ, _, h, k => Cs.mono e e' (ρ := ρ) (σ := σ) h k
  | some A :: ρ, x :: σ, _, h, k => by
    obtain ⟨v, F1, F2, e1, e2, a, c⟩ := h
    subst e2
    exact ⟨v, F1, F2, e1, rfl, A.mono a e e' fun b hb => k b (List.mem_append_left _ hb), Cs.mono e e' c fun b hb => k b (List.mem_append_right _ hb)⟩
theorem Cs.len {G H : Hp} : ∀ {ρ : List (Option OA)} {σ : List (Option V)} {F : List Addr}, Cs G H ρ σ F → ρ.length = σ.length
  | [], [], _, _ => rfl
  | [], _ :: _, _, h => h.elim
  | none :: _, [], _, h => h.elim
  | some _ :: _, [], _, h => h.elim
  | none :: ρ, _ :: σ, _, h => congrArg (· + 1) (Cs.len (ρ := ρ) (σ := σ) h)
  | some A :: ρ, x :: σ, _, h => by
    obtain ⟨v, F1, F2, e1, e2, a, c⟩ := h
    exact congrArg (· + 1) c.len
/-- one cell is taken out -/
theorem Cs.split {G H : Hp} : ∀ {ρ : List (Option OA)} {σ : List (Option V)} {F : List Addr} {i : Nat} {A : OA}, Cs G H ρ σ F → ρ[i]? = some (some A) →
    ∃ v F1 F2, σ[i]? = some (some v) ∧ F.Perm (F1 ++ F2) ∧ A.P G H v F1 ∧ Cs G H (ρ.set i none) σ F2
  | [], _, _, _, _, _, e => by simp at e
  | none :: _, [], _, _, _, h, _ => h.elim
  | some _ :: _, [], _, _, _, h, _ => h.elim
  | none :: ρ, x :: σ, F, 0, A, h, e => by simp at e
  | none :: ρ, x :: σ, F, i + 1, A, h, e => by
    obtain ⟨v, F1, F2, a, b, c, d⟩ := Cs.split (ρ := ρ) (σ := σ) (i := i) (A := A) h (by simpa using e)
    exact ⟨v, F1, F2, by simpa using a, b, c, d⟩
  | some B :: ρ, x :: σ, F, 0, A, h, e => by
    obtain ⟨v, F1, F2, e1, e2, a, c⟩ := h
    simp at e
    subst e e1 e2
    exact ⟨v, F1, F2, rfl, .refl _, a, c⟩
  | some B :: ρ, x :: σ, F, i + 1, A, h, e => by
    obtain ⟨v, F1, F2, e1, e2, a, c⟩ := h
    obtain ⟨u, F3, F4, b1, b2, b3, b4⟩ := Cs.split (i := i) (A := A) c (by simpa using e)
    subst e1 e2
    refine ⟨u, F3, F1 ++ F4, by simpa using b1, ?_, b3, v, F1, F4, rfl, rfl, a, b4⟩
    refine (List.Perm.append_left F1 b2).trans ?_
    rw [← List.append_assoc, ← List.append_assoc]
    exact List.Perm.append_right F4 List.perm_append_comm
/-- one cell is put in -/
theorem Cs.join {G H : Hp} : ∀ {ρ : List (Option OA)} {σ : List (Option V)} {F2 : List Addr} {i : Nat} {A : OA} {v : V} {F1 : List Addr}, Cs G H (ρ.set i none) σ F2 → i < ρ.length → A.P G H v F1 →
    ∃ F, F.Perm (F1 ++ F2) ∧ Cs G H (ρ.set i (some A)) (σ.set i (some v)) F
  | [], _, _, _, _, _, _, _, l, _ => by simp at l
  | _ :: ρ, [], _, 0, _, _, _, h, _, _ => h.elim
  | none :: ρ, [], _, i + 1, _, _, _, h, _, _ => h.elim
  | some _ :: ρ, [], _, i + 1, _, _, _, h, _, _ => h.elim
  | _ :: ρ, x :: σ, F2, 0, A, v, F1, h, _, a => ⟨F1 ++ F2, .refl _, v, F1, F2, rfl, rfl, a, h⟩
  | none :: ρ, x :: σ, F2, i + 1, A, v, F1, h, l, a => by
    obtain ⟨F, p, q⟩ := Cs.join (ρ := ρ) (σ := σ) (i := i) (A := A) (v := v) (F1 := F1) (F2 := F2) h (by simpa using l) a
    exact ⟨F, p, q⟩
  | some B :: ρ, x :: σ, F2, i + 1, A, v, F1, h, l, a => by
    obtain ⟨u, F3, F4, e1, e2, b, c⟩ := h
    obtain ⟨F, p, q⟩ := Cs.join (ρ := ρ) (σ := σ) (i := i) (A := A) (v := v) (F1 := F1) (F2 := F4) c (by simpa using l) a
    subst e1 e2
    refine ⟨F3 ++ F, ?_, u, F3, F, rfl, rfl, b, q⟩
    refine (List.Perm.append_left F3 p).trans ?_
    rw [← List.append_assoc, ← List.append_assoc]
    exact List.Perm.append_right F4 List.perm_append_comm
theorem Cs.forget {G H : Hp} : ∀ {ρ : List (Option OA)} {σ : List (Option V)} {F : List Addr} {i : Nat} {x : Option V}, Cs G H ρ σ F → ∃ F', F'.Sublist F ∧ Cs G H (ρ.set i none) (σ.set i x) F'
  | [], [], F, _, _, h => ⟨F, .refl _, h⟩
  | [], _ :: _, _, _, _, h => h.elim
  | none :: _, [], _, _, _, h => h.elim
  | some _ :: _, [], _, _, _, h => h.elim
  | none :: ρ, y :: σ, F, 0, x, h => ⟨F, .refl _, h⟩
  | some A :: ρ, y :: σ, F, 0, x, h => by
    obtain ⟨v, F1, F2, e1, e2, a, c⟩ := h
    subst e2
    exact ⟨F2, List.sublist_append_right _ _, c⟩
  | none :: ρ, y :: σ, F, i + 1, x, h => by
    obtain ⟨F', s, c⟩ := Cs.forget (ρ := ρ) (σ := σ) (i := i) (x := x) h
    exact ⟨F', s, c⟩
  | some A :: ρ, y :: σ, F, i + 1, x, h => by
    obtain ⟨v, F1, F2, e1, e2, a, c⟩ := h
    obtain ⟨F', s, q⟩ := Cs.forget (i := i) (x := x) c
    subst e1 e2
    exact ⟨F1 ++ F', List.Sublist.append_left s F1, v, F1, F', rfl, rfl, a, q⟩
theorem Cs.append {G H : Hp} : ∀ {ρ1 ρ2 : List (Option OA)} {σ1 σ2 : List (Option V)} {F1 F2 : List Addr}, Cs G H ρ1 σ1 F1 → Cs G H ρ2 σ2 F2 → Cs G H (ρ1 ++ ρ2) (σ1 ++ σ2) (F1 ++ F2)
  | [], _, [], _, _, _, h, q => by
    have e : _ = [] := h
    subst e
    exact q
  | [], _, _ :: _, _, _, _, h, _ => h.elim
  | none :: _, _, [], _, _, _, h, _ => h.elim
  | some _ :: _, _, [], _, _, _, h, _ => h.elim
  | none :: ρ, _, y :: σ, _, _, _, h, q => Cs.append (ρ1 := ρ) (σ1 := σ) h q
  | some A :: ρ, _, y :: σ, _, _, _, h, q => by
    obtain ⟨v, F1, F2, e1, e2, a, c⟩ := h
    subst e2
    exact ⟨v, F1, _, e1, List.append_assoc _ _ _, a, c.append q⟩
theorem Cs.unappend {G H : Hp} : ∀ {ρ1 ρ2 : List (Option OA)} {σ1 σ2 : List (Option V)} {F : List Addr}, ρ1.length = σ1.length → Cs G H (ρ1 ++ ρ2) (σ1 ++ σ2) F → ∃ F1 F2, F = F1 ++ F2 ∧ Cs G H ρ1 σ1 F1 ∧ Cs G H ρ2 σ2 F2
  | [], _, [], _, F, _, h => ⟨[], F, rfl, rfl, h⟩
  | [], _, _ :: _, _, _, l, _ => by simp at l
  | _ :: _, _, [], _, _, l, _ => by simp at l
  | none :: ρ, ρ2, y :: σ, σ2, F, l, h => by
    obtain ⟨F1, F2, a, b, c⟩ := Cs.unappend (ρ1 := ρ) (ρ2 := ρ2) (σ1 := σ) (σ2 := σ2) (F := F) (by simpa using l) h
    exact ⟨F1, F2, a, b, c⟩
  | some A :: ρ, ρ2, y :: σ, σ2, F, l, h => by
    obtain ⟨v, F1, F2, e1, e2, a, c⟩ := h
    obtain ⟨F3, F4, q1, q2, q3⟩ := Cs.unappend (by simpa using l) c
    subst e2 q1
    exact ⟨F1 ++ F3, F4, (List.append_assoc _ _ _).symm, ⟨v, F1, F3, e1, rfl, a, q2⟩, q3⟩

/-! ### what stands behind a run: E its entry; G what is known to stay, F what is owned -/
structure Ent where
  G : Hp
  H : Hp
  F : List Addr
structure Frm (E : Ent) (G H : Hp) (F : List Addr) : Prop where
  gg : Ex E.G G
  gh : Ex G H
  nd : F.Nodup
  dis : ∀ b ∈ F, G b = none
  live : ∀ b ∈ F, H b ≠ none
  keep : ∀ b o, E.H b = some o → b ∉ E.F → H b = some o
  fp : ∀ b ∈ F, b ∈ E.F ∨ E.H b = none
  gn : ∀ b o, G b = some o → E.G b = none → b ∈ E.F ∨ E.H b = none
theorem Frm.perm {E : Ent} {G H : Hp} {F F' : List Addr} (h : Frm E G H F) (p : F.Perm F') : Frm E G H F' :=
  ⟨h.gg, h.gh, (p.nodup_iff).mp h.nd, fun b hb => h.dis b (p.mem_iff.mpr hb), fun b hb => h.live b (p.mem_iff.mpr hb), h.keep, fun b hb => h.fp b (p.mem_iff.mpr hb), h.gn⟩
theorem Frm.less {E : Ent} {G H : Hp} {F F' : List Addr} (h : Frm E G H F) (p : F'.Sublist F) : Frm E G H F' :=
  ⟨h.gg, h.gh, h.nd.sublist p, fun b hb => h.dis b (p.subset hb), fun b hb => h.live b (p.subset hb), h.keep, fun b hb => h.fp b (p.subset hb), h.gn⟩
theorem Frm.start {E : Ent} {G H : Hp} {F : List Addr} (h : Frm E G H F) : Frm ⟨G, H, F⟩ G H F :=
  ⟨.refl _, h.gh, h.nd, h.dis, h.live, fun _ _ q _ => q, fun _ hb => .inl hb, fun b o q n => by rw [show G b = none from n] at q; cases q⟩
theorem Frm.old {E : Ent} {G H : Hp} {F : List Addr} (h : Frm E G H F) {b : Addr} (n : H b = none) : b ∈ E.F ∨ E.H b = none := by
  cases q : E.H b with
  | none => exact .inr rfl
  | some o =>
    by_cases hb : b ∈ E.F
    · exact .inl hb
    · rw [h.keep b o q hb] at n; cases n
/-- a step with a part of what is owned -/
theorem Frm.step {E : Ent} {G H G' H' : Hp} {F Fa Fr Fb : List Addr} (h : Frm E G H F) (p : F.Perm (Fa ++ Fr)) (s : Frm ⟨G, H, Fa⟩ G' H' Fb) : Frm E G' H' (Fb ++ Fr) ∧ ∀ b ∈ Fr, ∀ o, H b = some o → H' b = some o := by
  have h' := h.perm p
  have apart : ∀ b ∈ Fr, b ∉ Fa := fun b hb ha => (List.nodup_append.mp h'.nd).2.2 b ha b hb rfl
  have stay : ∀ b ∈ Fr, ∀ o, H b = some o → H' b = some o := fun b hb o q => s.keep b o q (apart b hb)
  have lv : ∀ b ∈ Fr, H b ≠ none := fun b hb => h'.live b (List.mem_append_right _ hb)
  have apart' : ∀ b ∈ Fr, b ∉ Fb := fun b hb ha => by
    rcases s.fp b ha with q | q
    · exact apart b hb q
    · exact lv b hb q
  refine ⟨⟨h.gg.trans s.gg, s.gh, ?_, fun b hb => ?_, fun b hb => ?_, fun b o q n => ?_, fun b hb => ?_, fun b o q n => ?_⟩, stay⟩
  · refine List.nodup_append.mpr ⟨s.nd, (List.nodup_append.mp h'.nd).2.1, fun a ha b hb e => ?_⟩
    subst e
    exact apart' a hb ha
  · rcases List.mem_append.mp hb with hb | hb
    · exact s.dis b hb
    · cases q : G' b with
      | none => rfl
      | some o =>
        rcases s.gn b o q (h'.dis b (List.mem_append_right _ hb)) with z | z
        · exact absurd z (apart b hb)
        · exact absurd z (lv b hb)
  · rcases List.mem_append.mp hb with hb | hb
    · exact s.live b hb
    · cases q : H b with
      | none => exact absurd q (lv b hb)
      | some o => rw [stay b hb o q]; simp
  · have q1 := h.keep b o q n
    refine s.keep b o q1 fun ha => ?_
    rcases h'.fp b (List.mem_append_left _ ha) with z | z
    · exact n z
    · rw [q] at z; cases z
  · rcases List.mem_append.mp hb with hb | hb
    · rcases s.fp b hb with z | z
      · exact h'.fp b (List.mem_append_left _ z)
      · exact h.old z
    · exact h'.fp b (List.mem_append_right _ hb)
  · cases q1 : G b with
    | some u => exact h.gn b u q1 n
    | none =>
      rcases s.gn b o q q1 with z | z
      · exact h'.fp b (List.mem_append_left _ z)
      · exact h.old z
/-- small steps -/
theorem Frm.alloc {G H : Hp} {p : Addr} {o : HO} (e : Ex G H) (n : H p = none) : Frm ⟨G, H, []⟩ G (upd H p o) [p] where
  gg := .refl _
  gh := e.trans (.new n)
  nd := by simp
  dis := fun b hb => by
    have e1 : b = p := by simpa using hb
    subst e1
    cases q : G b with
    | none => rfl
    | some u => rw [e b u q] at n; cases n
  live := fun b hb => by
    have e1 : b = p := by simpa using hb
    subst e1
    rw [upd_same]; simp
  keep := fun b u q _ => Ex.new n b u q
  fp := fun b hb => by
    have e1 : b = p := by simpa using hb
    subst e1
    exact .inr n
  gn := fun b u q n' => by rw [show G b = none from n'] at q; cases q
/-- a new object that stays -/
theorem Frm.allocG {G H : Hp} {p : Addr} {o : HO} (e : Ex G H) (n : H p = none) : Frm ⟨G, H, []⟩ (upd G p o) (upd H p o) [] := by
  have gn : G p = none := by
    cases q : G p with
    | none => rfl
    | some u => rw [e p u q] at n; cases n
  refine ⟨.new gn, fun b u q => ?_, by simp, fun b hb => by simp at hb, fun b hb => by simp at hb, fun b u q _ => Ex.new n b u q, fun b hb => by simp at hb, fun b u q n' => ?_⟩
  · by_cases hb : b = p
    · subst hb; rw [upd_same] at q ⊢; exact q
    · rw [upd_ne hb] at q ⊢; exact e b u q
  · by_cases hb : b = p
    · subst hb; exact .inr n
    · rw [upd_ne hb, show G b = none from n'] at q; cases q
/-- an owned object stays from now on -/
theorem Frm.freeze {G H : Hp} {p : Addr} {o : HO} (e : Ex G H) (g : G p = none) (h : H p = some o) : Frm ⟨G, H, [p]⟩ (upd G p o) H [] := by
  refine ⟨.new g, fun b u q => ?_, by simp, fun b hb => by simp at hb, fun b hb => by simp at hb, fun b u q _ => q, fun b hb => by simp at hb, fun b u q n' => ?_⟩
  · by_cases hb : b = p
    · subst hb; rw [upd_same] at q; cases q; exact h
    · rw [upd_ne hb] at q; exact e b u q
  · by_cases hb : b = p
    · exact .inl (by simp [hb])
    · rw [upd_ne hb, show G b = none from n'] at q; cases q
/-- an owned object is changed -/
theorem Frm.write {G H : Hp} {p : Addr} {o : HO} {F : List Addr} (b0 : Frm ⟨G, H, p :: F⟩ G H (p :: F)) : Frm ⟨G, H, p :: F⟩ G (upd H p o) (p :: F) where
  gg := .refl _
  gh := fun b u q => by
    have n : b ≠ p := fun z => by
      subst z
      rw [b0.dis b (by simp)] at q; cases q
    rw [upd_ne n]; exact b0.gh b u q
  nd := b0.nd
  dis := b0.dis
  live := fun b hb => by
    by_cases z : b = p
    · subst z; rw [upd_same]; simp
    · rw [upd_ne z]; exact b0.live b hb
  keep := fun b u q n => by
    have z : b ≠ p := fun z => n (by simp [z])
    rw [upd_ne z]; exact q
  fp := fun b hb => .inl hb
  gn := fun b u q n => by rw [show G b = none from n] at q; cases q

/-! ### the state of a run: ρ what is known of the cells σ -/
def ST (E : Ent) (ρ : List (Option OA)) (σ : List (Option V)) (H : Hp) : Prop := ∃ G F, Frm E G H F ∧ Cs G H ρ σ F
end Mr

set_option Elab.async false
set_option linter.all false
set_option maxRecDepth 100000
namespace Mr
open PySem PySem.Spec PyProof.Rows L2

abbrev Cl := List (Option OA)

/-! ### the weakest readings -/
def wE (X : Cx) (e : Expr) : TE := fun σ H Q => ∀ pins s, Inv X pins σ H s → wpAny (model X.prog X.w) X.A (eval e X.env) (EP X pins σ Q) X.xe s
def wT (X : Cx) (e : Expr) : TT := fun σ H Q => ∀ pins s, Inv X pins σ H s → wpAny (model X.prog X.w) X.A (isTrue e X.env (eval e X.env)) (TP X pins σ Q) X.xe s
def wW (X : Cx) (e : Expr) : TT := fun σ H Q => ∀ whole pins s, Inv X pins σ H s → wpAny (model X.prog X.w) X.A (isTrue e X.env whole) (TP X pins σ Q) X.xe s
def wA (X : Cx) (es : List Expr) : TA := fun σ H Q => ∀ pos pins s, Inv X pins σ H s → wpAny (model X.prog X.w) X.A (spliced (backTo pos (starEach es X.env))) (AP X pins σ Q) X.xe s
def wS (X : Cx) (sts : List Stmt) : TS := fun D σ H => ∀ pins s, Inv X pins σ H s → wpAny (model X.prog X.w) X.A (execs sts X.env) (SP X pins D) X.xe s
section
variable {X : Cx} {e : Expr} {es : List Expr} {st : Stmt} {sts : List Stmt} {σ : L2.St} {H : Hp}
theorem peS : PE X e (wE X e) := ⟨fun pins s _ _ _ I h => h pins s I⟩
theorem ptS : PT X e (wT X e) := ⟨fun pins s _ _ _ I h => h pins s I⟩
theorem pwS : PW X e (wW X e) := ⟨fun wh pins s _ _ _ I h => h wh pins s I⟩
theorem paS : PA X es (wA X es) := ⟨fun p pins s _ _ _ I h => h p pins s I⟩
theorem pssS : PSs X sts (wS X sts) := ⟨fun pins s _ _ _ I h => h pins s I⟩
theorem wE.of {t : TE} (h : PE X e t) {Q : VK} (q : t σ H Q) : wE X e σ H Q := fun pins s I => h.run pins s σ H Q I q
theorem wT.of {t : TT} (h : PT X e t) {Q : Bool → Hp → Prop} (q : t σ H Q) : wT X e σ H Q := fun pins s I => h.run pins s σ H Q I q
theorem wW.of {t : TT} (h : PW X e t) {Q : Bool → Hp → Prop} (q : t σ H Q) : wW X e σ H Q := fun wh pins s I => h.run wh pins s σ H Q I q
theorem wA.of {t : TA} (h : PA X es t) {Q : List V → Hp → Prop} (q : t σ H Q) : wA X es σ H Q := fun p pins s I => h.run p pins s σ H Q I q
theorem wS.of {t : TS} (h : PSs X sts t) {D : Ends} (q : t D σ H) : wS X sts D σ H := fun pins s I => h.run pins s σ H D I q
end

/-! ### assertions -/
def aD (K : PySem.W.Frag) (d : PyData) : OA := ⟨fun G _ v F => Dq K G v d ∧ F = [], fun h e _ _ => ⟨Dq.mono e _ _ h.1, h.2⟩⟩
def aV (v0 : V) : OA := ⟨fun _ _ v F => v = v0 ∧ F = [], fun h _ _ _ => h⟩
def pin (v0 : V) (A : OA) : OA := ⟨fun G H v F => v = v0 ∧ A.P G H v F, fun h e e' k => ⟨h.1, A.mono h.2 e e' k⟩⟩
/-- an owned list of things -/
def aL (As : List OA) : OA := ⟨fun G H v F => ∃ p vs F', v = .ref p ∧ F = p :: F' ∧ H p = some (.lst vs) ∧ Cs G H (As.map some) (vs.map some) F', fun h e e' k => by
  obtain ⟨p, vs, F', e1, e2, h1, c⟩ := h
  subst e2
  exact ⟨p, vs, F', e1, rfl, k p (by simp) _ h1, c.mono e e' fun b hb => k b (by simp [hb])⟩⟩
/-- an owned list of pure data -/
abbrev aLD (K : PySem.W.Frag) (ds : List PyData) : OA := aL (ds.map (aD K))
/-- a list that may be read (the script) -/
def aR (K : PySem.W.Frag) (ds : List PyData) : OA := ⟨fun G _ v F => (∃ a xs, v = .ref a ∧ SqL K G a xs ∧ DqAll K G xs ds) ∧ F = [], fun h e _ _ => by
  obtain ⟨⟨a, xs, e1, e2, e3⟩, e4⟩ := h
  exact ⟨⟨a, xs, e1, e.sl e2, DqAll.mono e _ _ e3⟩, e4⟩⟩

theorem csD {K : PySem.W.Frag} {G H : Hp} : ∀ {ds : List PyData} {vs : List V} {F : List Addr}, Cs G H ((ds.map (aD K)).map some) (vs.map some) F → DqAll K G vs ds ∧ F = []
  | [], [], _, h => ⟨.nil, h⟩
  | [], _ :: _, _, h => h.elim
  | _ :: _, [], _, h => h.elim
  | d :: ds, x :: vs, F, h => by
    obtain ⟨v, F1, F2, e1, e2, a, c⟩ := h
    obtain ⟨q1, q2⟩ := csD (ds := ds) (vs := vs) c
    cases e1
    obtain ⟨a1, a2⟩ := a
    subst e2 a2 q2
    exact ⟨.cons a1 q1, rfl⟩
theorem csD' {K : PySem.W.Frag} {G H : Hp} : ∀ {ds : List PyData} {vs : List V}, DqAll K G vs ds → Cs G H ((ds.map (aD K)).map some) (vs.map some) []
  | [], _, h => by cases h; exact rfl
  | d :: ds, _, h => by
    cases h with
    | cons h1 h2 => exact ⟨_, [], [], rfl, rfl, ⟨h1, rfl⟩, csD' h2⟩

/-! ### judgements -/
/-- the expression e, where ρ is known, gives a thing of which A holds, and leaves ρ' -/
def XE (X : Cx) (e : Expr) (ρ ρ' : Cl) (A : OA) : Prop := ∀ (E : Ent) (T : Cl) (t σ : L2.St) (H : Hp), T.length = t.length → ST E (T ++ ρ) (t ++ σ) H →
  ∀ Q : VK, (∀ v H', ST E (some A :: (T ++ ρ')) (some v :: (t ++ σ)) H' → Q v H') → wE X e σ H Q
def XT (X : Cx) (e : Expr) (ρ ρ' : Cl) (b : Bool) : Prop := ∀ (E : Ent) (T : Cl) (t σ : L2.St) (H : Hp), T.length = t.length → ST E (T ++ ρ) (t ++ σ) H →
  ∀ Q : Bool → Hp → Prop, (∀ H', ST E (T ++ ρ') (t ++ σ) H' → Q b H') → wT X e σ H Q
def XW (X : Cx) (e : Expr) (ρ ρ' : Cl) (b : Bool) : Prop := ∀ (E : Ent) (T : Cl) (t σ : L2.St) (H : Hp), T.length = t.length → ST E (T ++ ρ) (t ++ σ) H →
  ∀ Q : Bool → Hp → Prop, (∀ H', ST E (T ++ ρ') (t ++ σ) H' → Q b H') → wW X e σ H Q
def XA (X : Cx) (es : List Expr) (ρ ρ' : Cl) (As : List OA) : Prop := ∀ (E : Ent) (T : Cl) (t σ : L2.St) (H : Hp), T.length = t.length → ST E (T ++ ρ) (t ++ σ) H →
  ∀ Q : List V → Hp → Prop, (∀ vs H', vs.length = As.length → ST E (As.map some ++ (T ++ ρ')) (vs.map some ++ (t ++ σ)) H' → Q vs H') → wA X es σ H Q
def XG (X : Cx) {ω : Type} (sts : List Stmt) (ρ : Cl) (m : Option ω) (Φ : ω → Ent → Ends → Prop) : Prop := ∀ o, m = some o → ∀ (E : Ent) (σ : L2.St) (H : Hp) (D : Ends), ST E ρ σ H → Φ o E D → wS X sts D σ H
/-- it returns | it goes on | one of both -/
def oR {γ : Type} (R : γ → Cl) : γ → Ent → Ends → Prop := fun r E D => ∀ v σ' H', ST E (R r) (some v :: σ') H' → D.rt v H'
def oS {β : Type} (N : β → Cl) : β → Ent → Ends → Prop := fun b E D => ∀ σ' H', ST E (N b) σ' H' → D.nx σ' H'
def oB {γ β : Type} (R : γ → Cl) (N : β → Cl) : γ ⊕ β → Ent → Ends → Prop
  | .inl r => oR R r
  | .inr b => oS N b

/-! ### the state's moves -/
theorem append_set_right {α : Type} (T ρ : List α) (i : Nat) (x : α) : (T ++ ρ).set (T.length + i) x = T ++ ρ.set i x := by
  rw [List.set_append_right _ _ (Nat.le_add_right _ _), Nat.add_sub_cancel_left]
theorem append_get_right {α : Type} (T ρ : List α) (i : Nat) : (T ++ ρ)[T.length + i]? = ρ[i]? := by
  rw [List.getElem?_append_right (Nat.le_add_right _ _), Nat.add_sub_cancel_left]
theorem Cs.slot {G H : Hp} {T ρ : Cl} {t σ : L2.St} {F : List Addr} {i : Nat} {A : OA} (l : T.length = t.length) (c : Cs G H (T ++ ρ) (t ++ σ) F) (h : ρ[i]? = some (some A)) :
    ∃ v F1 F2, σ[i]? = some (some v) ∧ F.Perm (F1 ++ F2) ∧ A.P G H v F1 ∧ Cs G H (T ++ ρ.set i none) (t ++ σ) F2 := by
  obtain ⟨v, F1, F2, a, b, p, q⟩ := c.split (i := T.length + i) (by rw [append_get_right]; exact h)
  rw [l, append_get_right] at a
  rw [append_set_right] at q
  exact ⟨v, F1, F2, a, b, p, q⟩
theorem Cs.back {G H : Hp} {T ρ : Cl} {t σ : L2.St} {F2 : List Addr} {i : Nat} {A : OA} {v : V} {F1 : List Addr} (l : T.length = t.length) (c : Cs G H (T ++ ρ.set i none) (t ++ σ) F2) (hi : i < ρ.length) (hv : σ[i]? = some (some v)) (p : A.P G H v F1) :
    ∃ F, F.Perm (F1 ++ F2) ∧ Cs G H (T ++ ρ.set i (some A)) (t ++ σ) F := by
  rw [← append_set_right] at c
  obtain ⟨F, a, b⟩ := c.join (by rw [List.length_append]; omega) p
  refine ⟨F, a, ?_⟩
  rw [append_set_right, l, append_set_right] at b
  have e : σ.set i (some v) = σ := by
    refine List.ext_getElem? fun j => ?_
    by_cases z : i = j
    · subst z
      have hl : i < σ.length := by
        by_cases q : i < σ.length
        · exact q
        · rw [List.getElem?_eq_none (by omega)] at hv; cases hv
      rw [List.getElem?_set_self hl, hv]
    · rw [List.getElem?_set_ne z]
  rwa [e] at b
theorem lt_of_get {α : Type} {l : List α} {i : Nat} {x : α} (h : l[i]? = some x) : i < l.length := by
  by_cases q : i < l.length
  · exact q
  · rw [List.getElem?_eq_none (by omega)] at h; cases h
theorem set_get {α : Type} {l : List α} {i : Nat} {x : α} (h : l[i]? = some x) : l.set i x = l := by
  refine List.ext_getElem? fun j => ?_
  by_cases z : i = j
  · subst z
    rw [List.getElem?_set_self (lt_of_get h), h]
  · rw [List.getElem?_set_ne z]
theorem set_set {α : Type} (l : List α) (i : Nat) (x y : α) : (l.set i x).set i y = l.set i y := by
  refine List.ext_getElem? fun j => ?_
  by_cases z : i = j
  · subst z
    by_cases q : i < l.length
    · rw [List.getElem?_set_self (by rw [List.length_set]; exact q), List.getElem?_set_self q]
    · rw [List.getElem?_eq_none (by simp; omega), List.getElem?_eq_none (by simp; omega)]
  · rw [List.getElem?_set_ne z, List.getElem?_set_ne z, List.getElem?_set_ne z]
/-- weaker knowledge -/
def Wk : Cl → Cl → Prop
  | [], [] => True
  | _ :: l, none :: l' => Wk l l'
  | a :: l, some b :: l' => a = some b ∧ Wk l l'
  | _, _ => False
theorem Cs.wk {G H : Hp} : ∀ {ρ ρ' : Cl} {σ : L2.St} {F : List Addr}, Cs G H ρ σ F → Wk ρ ρ' → ∃ F', F'.Sublist F ∧ Cs G H ρ' σ F'
  | [], [], [], F, c, _ => ⟨F, .refl _, c⟩
  | [], [], _ :: _, F, c, _ => c.elim
  | [], _ :: _, _, _, _, w => w.elim
  | _ :: _, [], _, _, _, w => w.elim
  | none :: _, _ :: _, [], _, c, _ => c.elim
  | some _ :: _, _ :: _, [], _, c, _ => c.elim
  | none :: ρ, none :: ρ', x :: σ, F, c, w => by
    obtain ⟨F', a, b⟩ := Cs.wk (ρ := ρ) (ρ' := ρ') (σ := σ) c w
    exact ⟨F', a, b⟩
  | none :: ρ, some B :: ρ', x :: σ, F, c, w => nomatch w.1
  | some A :: ρ, none :: ρ', x :: σ, F, c, w => by
    obtain ⟨v, F1, F2, e1, e2, a, c⟩ := c
    obtain ⟨F', p, q⟩ := Cs.wk (ρ' := ρ') c w
    subst e2
    exact ⟨F', p.trans (List.sublist_append_right _ _), q⟩
  | some A :: ρ, some B :: ρ', x :: σ, F, c, w => by
    obtain ⟨v, F1, F2, e1, e2, a, c⟩ := c
    obtain ⟨w1, w2⟩ := w
    cases w1
    obtain ⟨F', p, q⟩ := Cs.wk (ρ' := ρ') c w2
    subst e2
    exact ⟨F1 ++ F', List.Sublist.append_left p F1, v, F1, F', e1, rfl, a, q⟩
theorem ST.wk {E : Ent} {ρ ρ' : Cl} {σ : L2.St} {H : Hp} (h : ST E ρ σ H) (w : Wk ρ ρ') : ST E ρ' σ H := by
  obtain ⟨G, F, f, c⟩ := h
  obtain ⟨F', s, c'⟩ := c.wk w
  exact ⟨G, F', f.less s, c'⟩
theorem ST.pop {E : Ent} {ρ : Cl} {σ : L2.St} {H : Hp} {A : OA} {x : Option V} (h : ST E (some A :: ρ) (x :: σ) H) : ST E ρ σ H := by
  obtain ⟨G, F, f, v, F1, F2, e1, e2, a, c⟩ := h
  subst e2
  exact ⟨G, F2, f.less (List.sublist_append_right _ _), c⟩
/-- the top goes into the cell i -/
theorem ST.assign {E : Ent} {ρ : Cl} {σ : L2.St} {H : Hp} {A : OA} {v : V} {i : Nat} (h : ST E (some A :: ρ) (some v :: σ) H) (hi : i < ρ.length) : ST E (ρ.set i (some A)) (σ.set i (some v)) H := by
  obtain ⟨G, F, f, v', F1, F2, e1, e2, a, c⟩ := h
  cases e1
  subst e2
  obtain ⟨F3, s, c1⟩ := c.forget (i := i) (x := none)
  have f1 : Frm E G H (F1 ++ F3) := f.less (List.Sublist.append_left s F1)
  obtain ⟨F4, p, c2⟩ := c1.join hi a
  rw [set_set] at c2
  exact ⟨G, F4, f1.perm p.symm, c2⟩

/-! ### one value, two values on the top -/
theorem ST.top {E : Ent} {K : PySem.W.Frag} {ρ : Cl} {σ : L2.St} {H : Hp} {d : PyData} {v : V} (h : ST E (some (aD K d) :: ρ) (some v :: σ) H) : ∃ G F, Frm E G H F ∧ Cs G H ρ σ F ∧ Dq K G v d := by
  obtain ⟨G, F, f, v', F1, F2, e1, e2, a, c⟩ := h
  cases e1
  obtain ⟨a1, a2⟩ := a
  subst e2 a2
  exact ⟨G, F2, f, c, a1⟩
theorem ST.top2 {E : Ent} {K : PySem.W.Frag} {ρ : Cl} {σ : L2.St} {H : Hp} {d e : PyData} {v w : V} (h : ST E (some (aD K e) :: some (aD K d) :: ρ) (some w :: some v :: σ) H) : ∃ G F, Frm E G H F ∧ Cs G H ρ σ F ∧ Dq K G v d ∧ Dq K G w e := by
  obtain ⟨G, F, f, c, q⟩ := h.top
  obtain ⟨v', F1, F2, e1, e2, a, c⟩ := c
  cases e1
  obtain ⟨a1, a2⟩ := a
  subst e2 a2
  exact ⟨G, F2, f, c, a1, q⟩
theorem ST.put {E : Ent} {K : PySem.W.Frag} {ρ : Cl} {σ : L2.St} {G H : Hp} {F : List Addr} {d : PyData} {v : V} (f : Frm E G H F) (c : Cs G H ρ σ F) (q : Dq K G v d) : ST E (some (aD K d) :: ρ) (some v :: σ) H := ⟨G, F, f, v, [], F, rfl, rfl, ⟨q, rfl⟩, c⟩

/-! ### expressions: names and constants -/
section
variable {X : Cx} {ρ ρ1 ρ2 ρ3 : Cl} {a b c : Expr} {pos : Pos}
theorem xe_c {v : V} {d : PyData} (h : PE X a (tC v)) (q : ∀ G, Dq X.K G v d) : XE X a ρ ρ (aD X.K d) := fun E T t σ H l st Q k => by
  obtain ⟨G, F, f, cs⟩ := st
  exact wE.of h (k v H (ST.put f cs (q G)))
theorem xe_int {i : Int} {j : Nat} : XE X (.Constant (.int i) j pos) ρ ρ (aD X.K (.int i)) := xe_c pe_int fun _ => .int _
theorem xe_bl {i : Bool} {j : Nat} : XE X (.Constant (.bool i) j pos) ρ ρ (aD X.K (.bool i)) := xe_c pe_bl fun _ => .bl _
theorem xe_str {i : Str} {j : Nat} : XE X (.Constant (.str i) j pos) ρ ρ (aD X.K (.str i)) := xe_c pe_str fun _ => .str _
theorem xe_non {j : Nat} : XE X (.Constant .none j pos) ρ ρ (aD X.K .none) := xe_c pe_non fun _ => .non
theorem xe_gInt {x : Str} {i : Int} {u : Value} (hg : Gl X x) (hm : X.mg x = some u) (r : RelV (.int i) u) (hd : (x == ("__debug__" : Str)) = false := by decide) : XE X (.Name x pos) ρ ρ (aD X.K (.int i)) := xe_c (pe_glob hg hm r hd) fun _ => .int _
/-- a name of the def that holds data -/
theorem xe_nm (i : Nat) {x : Str} {d : PyData} (h : ρ[i]? = some (some (aD X.K d))) (hN : X.N[i]? = some x := by rfl) (hv : Vis X.env.scope x := by first | exact Or.inl rfl | exact Or.inr (Or.inl rfl) | exact Or.inr (Or.inr rfl)) (hd : (x == ("__debug__" : Str)) = false := by decide)
    (hcd : (x == ("__classdict__" : Str)) = false := by decide) : XE X (.Name x pos) ρ ρ (aD X.K d) := fun E T t σ H l st Q k => by
  obtain ⟨G, F, f, cs⟩ := st
  obtain ⟨v, F1, F2, e1, e2, ⟨q, e3⟩, c2⟩ := cs.slot l h
  exact wE.of (pe_var hN hv hd hcd) ⟨v, e1, k v H (ST.put f cs q)⟩
theorem xe_nmA (i : Nat) {x : Str} {A : OA} (h : ρ[i]? = some (some A)) (hA : ∀ G H v F, A.P G H v F → F = []) (hN : X.N[i]? = some x := by rfl) (hv : Vis X.env.scope x := by first | exact Or.inl rfl | exact Or.inr (Or.inl rfl) | exact Or.inr (Or.inr rfl)) (hd : (x == ("__debug__" : Str)) = false := by decide)
    (hcd : (x == ("__classdict__" : Str)) = false := by decide) : XE X (.Name x pos) ρ ρ A := fun E T t σ H l st Q k => by
  obtain ⟨G, F, f, cs⟩ := st
  obtain ⟨v, F1, F2, e1, e2, q, c2⟩ := cs.slot l h
  have e3 := hA _ _ _ _ q
  subst e3
  exact wE.of (pe_var hN hv hd hcd) ⟨v, e1, k v H ⟨G, F, f, v, [], F, rfl, rfl, q, cs⟩⟩
theorem xe_nmR (i : Nat) {x : Str} {ds : List PyData} (h : ρ[i]? = some (some (aR X.K ds))) (hN : X.N[i]? = some x := by rfl) (hv : Vis X.env.scope x := by first | exact Or.inl rfl | exact Or.inr (Or.inl rfl) | exact Or.inr (Or.inr rfl)) (hd : (x == ("__debug__" : Str)) = false := by decide)
    (hcd : (x == ("__classdict__" : Str)) = false := by decide) : XE X (.Name x pos) ρ ρ (aR X.K ds) := xe_nmA i h (fun _ _ _ _ q => q.2) hN hv hd hcd
/-- a name of the def that holds an owned thing: its value -/
theorem xe_nmV (i : Nat) {x : Str} {v0 : V} {A : OA} (h : ρ[i]? = some (some (pin v0 A))) (hN : X.N[i]? = some x := by rfl) (hv : Vis X.env.scope x := by first | exact Or.inl rfl | exact Or.inr (Or.inl rfl) | exact Or.inr (Or.inr rfl)) (hd : (x == ("__debug__" : Str)) = false := by decide)
    (hcd : (x == ("__classdict__" : Str)) = false := by decide) : XE X (.Name x pos) ρ ρ (aV v0) := fun E T t σ H l st Q k => by
  obtain ⟨G, F, f, cs⟩ := st
  obtain ⟨v, F1, F2, e1, e2, ⟨e0, q⟩, c2⟩ := cs.slot l h
  subst e0
  exact wE.of (pe_var hN hv hd hcd) ⟨v, e1, k v H ⟨G, F, f, v, [], F, rfl, rfl, ⟨rfl, rfl⟩, cs⟩⟩

/-! ### operators -/
theorem xe_op {op : Operator} {r : R2} {d1 d2 d : PyData} (ho : OpR X (binaryOp op) r) (ha : XE X a ρ ρ1 (aD X.K d1)) (hb : XE X b ρ1 ρ2 (aD X.K d2))
    (hr : ∀ G H x y Q, Ex G H → Dq X.K G x d1 → Dq X.K G y d2 → (∀ z, Dq X.K G z d → Q z H) → r x y H Q) : XE X (.BinOp a op b pos) ρ ρ2 (aD X.K d) := fun E T t σ H l st Q k =>
  wE.of (pe_op ho peS peS) (ha E T t σ H l st _ fun x H1 st1 => hb E (_ :: T) (_ :: t) σ H1 (by simp [l]) st1 _ fun y H2 st2 => by
    obtain ⟨G, F, f, cs, q1, q2⟩ := ST.top2 st2
    exact hr G H2 x y Q f.gh q1 q2 fun z q => k z H2 (ST.put f cs q))
theorem xe_opI {op : Operator} {C : Int → Int → Prop} {g : Int → Int → Int} {i j : Int} (ho : OpR X (binaryOp op) (rI C fun i j => .int (g i j))) (ha : XE X a ρ ρ1 (aD X.K (.int i))) (hb : XE X b ρ1 ρ2 (aD X.K (.int j))) (hc : C i j) : XE X (.BinOp a op b pos) ρ ρ2 (aD X.K (.int (g i j))) :=
  xe_op ho ha hb fun G H x y Q _ q1 q2 k => by
    cases q1
    cases q2
    exact ⟨i, j, rfl, rfl, hc, k _ (.int _)⟩
theorem xe_opI0 {op : Operator} {g : Int → Int → Int} {i j : Int} (ho : OpR X (binaryOp op) (rI0 fun i j => .int (g i j))) (ha : XE X a ρ ρ1 (aD X.K (.int i))) (hb : XE X b ρ1 ρ2 (aD X.K (.int j))) : XE X (.BinOp a op b pos) ρ ρ2 (aD X.K (.int (g i j))) :=
  xe_op ho ha hb fun G H x y Q _ q1 q2 k => by
    cases q1
    cases q2
    exact ⟨i, j, rfl, rfl, k _ (.int _)⟩
variable {i j : Int}
theorem xe_add (ha : XE X a ρ ρ1 (aD X.K (.int i))) (hb : XE X b ρ1 ρ2 (aD X.K (.int j))) : XE X (.BinOp a .Add b pos) ρ ρ2 (aD X.K (.int (i + j))) := xe_opI0 op_add ha hb
theorem xe_sub (ha : XE X a ρ ρ1 (aD X.K (.int i))) (hb : XE X b ρ1 ρ2 (aD X.K (.int j))) : XE X (.BinOp a .Sub b pos) ρ ρ2 (aD X.K (.int (i - j))) := xe_opI0 op_sub ha hb
def MulOk (i j : Int) : Prop := (-(2 ^ 64) < i ∧ i < 2 ^ 64) ∨ (-(2 ^ 64) < j ∧ j < 2 ^ 64)
instance (i j : Int) : Decidable (MulOk i j) := by unfold MulOk; exact inferInstance
theorem mulL (i : Int) (h : -(2 ^ 64) < i ∧ i < 2 ^ 64 := by decide) {j : Int} : MulOk i j := .inl h
theorem mulR (j : Int) (h : -(2 ^ 64) < j ∧ j < 2 ^ 64 := by decide) {i : Int} : MulOk i j := .inr h
theorem xe_mul (hc : MulOk i j) (ha : XE X a ρ ρ1 (aD X.K (.int i))) (hb : XE X b ρ1 ρ2 (aD X.K (.int j))) : XE X (.BinOp a .Mult b pos) ρ ρ2 (aD X.K (.int (i * j))) := xe_opI op_mul ha hb hc
/-- //, % by a positive number below 2 ^ 64 -/
def DivOk (j : Int) : Prop := 0 < j ∧ j < 2 ^ 64
instance (j : Int) : Decidable (DivOk j) := by unfold DivOk; exact inferInstance
theorem DivOk.w {i j : Int} (h : DivOk j) : CDivW i j := wide_div (b := 64) h.1 (by have := h.2; have := h.1; omega) (by decide) (by decide)
theorem xe_div (hc : DivOk j) (ha : XE X a ρ ρ1 (aD X.K (.int i))) (hb : XE X b ρ1 ρ2 (aD X.K (.int j))) : XE X (.BinOp a .FloorDiv b pos) ρ ρ2 (aD X.K (.int (i / j))) := xe_opI op_fdivW ha hb hc.w
theorem xe_mod (hc : 0 < j) (ha : XE X a ρ ρ1 (aD X.K (.int i))) (hb : XE X b ρ1 ρ2 (aD X.K (.int j))) : XE X (.BinOp a .Mod b pos) ρ ρ2 (aD X.K (.int (i % j))) := xe_opI op_mod ha hb hc
def PowOk (i j : Int) : Prop := 0 ≤ j ∧ j ≤ 1000000 ∧ i.natAbs < 2 ^ 64
instance (i j : Int) : Decidable (PowOk i j) := by unfold PowOk; exact inferInstance
theorem xe_pow (hc : PowOk i j) (ha : XE X a ρ ρ1 (aD X.K (.int i))) (hb : XE X b ρ1 ρ2 (aD X.K (.int j))) : XE X (.BinOp a .Pow b pos) ρ ρ2 (aD X.K (.int (i ^ j.toNat))) := xe_opI op_pow ha hb hc
theorem xe_shl (hc : PowOk i j) (ha : XE X a ρ ρ1 (aD X.K (.int i))) (hb : XE X b ρ1 ρ2 (aD X.K (.int j))) : XE X (.BinOp a .LShift b pos) ρ ρ2 (aD X.K (.int (i * 2 ^ j.toNat))) := xe_opI (g := fun i j => i * 2 ^ j.toNat) op_shl ha hb hc
theorem xe_shr (hc : 0 ≤ j) (ha : XE X a ρ ρ1 (aD X.K (.int i))) (hb : XE X b ρ1 ρ2 (aD X.K (.int j))) : XE X (.BinOp a .RShift b pos) ρ ρ2 (aD X.K (.int (i / 2 ^ j.toNat))) := xe_opI (C := fun _ j => 0 ≤ j) (g := fun i j => i / 2 ^ j.toNat) op_shr ha hb hc
theorem xe_xor (ha : XE X a ρ ρ1 (aD X.K (.int i))) (hb : XE X b ρ1 ρ2 (aD X.K (.int j))) : XE X (.BinOp a .BitXor b pos) ρ ρ2 (aD X.K (.int (Builtin.bitXor i j))) := xe_opI0 op_xor ha hb
theorem xe_neg (ha : XE X a ρ ρ1 (aD X.K (.int i))) : XE X (.UnaryOp .USub a pos) ρ ρ1 (aD X.K (.int (-i))) := fun E T t σ H l st Q k =>
  wE.of (pe_un un_neg peS) (ha E T t σ H l st _ fun x H1 st1 => by
    obtain ⟨G, F, f, cs, q⟩ := ST.top st1
    cases q
    exact ⟨i, rfl, k _ H1 (ST.put f cs (.int _))⟩)

/-! ### comparisons -/
/-- a comparison, as a value and as a test -/
def XKm (X : Cx) (e : Expr) (ρ ρ' : Cl) (k : Bool) : Prop := ∃ t : TE, PE X e t ∧ PT X e (tTest t) ∧ ∀ (E : Ent) (T : Cl) (t' σ : L2.St) (H : Hp), T.length = t'.length → ST E (T ++ ρ) (t' ++ σ) H →
  ∀ Q : VK, (∀ v H', ST E (some (aD X.K (.bool k)) :: (T ++ ρ')) (some v :: (t' ++ σ)) H' → Q v H') → t σ H Q
theorem xe_k {k : Bool} (h : XKm X a ρ ρ1 k) : XE X a ρ ρ1 (aD X.K (.bool k)) := fun E T t σ H l st Q kk => by
  obtain ⟨t0, h1, h2, h3⟩ := h
  exact wE.of h1 (h3 E T t σ H l st Q kk)
theorem xt_k {k : Bool} (h : XKm X a ρ ρ1 k) : XT X a ρ ρ1 k := fun E T t σ H l st Q kk => by
  obtain ⟨t0, h1, h2, h3⟩ := h
  exact wT.of h2 (h3 E T t σ H l st _ fun v H1 st1 => by
    obtain ⟨G, F, f, cs, q⟩ := ST.top st1
    cases q
    exact ⟨k, rfl, kk H1 ⟨G, F, f, cs⟩⟩)
theorem xk_cmp {op : CmpOp} {r : R2} {d1 d2 : PyData} {k : Bool} (ho : OpR X (compareOp op) r) (hm : behindInMarks op b = false) (ha : XE X a ρ ρ1 (aD X.K d1)) (hb : XE X b ρ1 ρ2 (aD X.K d2))
    (hr : ∀ G H x y Q, Ex G H → Dq X.K G x d1 → Dq X.K G y d2 → (∀ z, Dq X.K G z (.bool k) → Q z H) → r x y H Q) : XKm X (.Compare a [op] [b] pos) ρ ρ2 k :=
  ⟨_, pe_cmpR ho peS peS hm, pt_cmpR ho peS peS hm, fun E T t σ H l st Q kk => ha E T t σ H l st _ fun x H1 st1 => hb E (_ :: T) (_ :: t) σ H1 (by simp [l]) st1 _ fun y H2 st2 => by
    obtain ⟨G, F, f, cs, q1, q2⟩ := ST.top2 st2
    exact hr G H2 x y Q f.gh q1 q2 fun z q => kk z H2 (ST.put f cs q)⟩
theorem xk_cmpI {op : CmpOp} {g : Int → Int → Bool} {i j : Int} (ho : OpR X (compareOp op) (rI0 fun i j => .bl (g i j))) (ha : XE X a ρ ρ1 (aD X.K (.int i))) (hb : XE X b ρ1 ρ2 (aD X.K (.int j))) (hm : behindInMarks op b = false) : XKm X (.Compare a [op] [b] pos) ρ ρ2 (g i j) :=
  xk_cmp ho hm ha hb fun G H x y Q _ q1 q2 k => by
    cases q1
    cases q2
    exact ⟨i, j, rfl, rfl, k _ (.bl _)⟩
theorem xk_lt (ha : XE X a ρ ρ1 (aD X.K (.int i))) (hb : XE X b ρ1 ρ2 (aD X.K (.int j))) : XKm X (.Compare a [.Lt] [b] pos) ρ ρ2 (decide (i < j)) := xk_cmpI (g := fun i j => decide (i < j)) op_lt ha hb (nomark _)
theorem xk_le (ha : XE X a ρ ρ1 (aD X.K (.int i))) (hb : XE X b ρ1 ρ2 (aD X.K (.int j))) : XKm X (.Compare a [.LtE] [b] pos) ρ ρ2 (decide (i ≤ j)) := xk_cmpI (g := fun i j => decide (i ≤ j)) op_le ha hb (nomark _)
theorem xk_gt (ha : XE X a ρ ρ1 (aD X.K (.int i))) (hb : XE X b ρ1 ρ2 (aD X.K (.int j))) : XKm X (.Compare a [.Gt] [b] pos) ρ ρ2 (decide (j < i)) := xk_cmpI (g := fun i j => decide (j < i)) op_gt ha hb (nomark _)
theorem xk_ge (ha : XE X a ρ ρ1 (aD X.K (.int i))) (hb : XE X b ρ1 ρ2 (aD X.K (.int j))) : XKm X (.Compare a [.GtE] [b] pos) ρ ρ2 (decide (j ≤ i)) := xk_cmpI (g := fun i j => decide (j ≤ i)) op_ge ha hb (nomark _)
end
end Mr

set_option Elab.async false
set_option linter.all false
set_option maxRecDepth 100000
namespace Mr
open PySem PySem.Spec PyProof.Rows L2

/-! ### how a thing is read -/
/-- A, where ρ is known, reads as data | as a list whose items stay | a list that is tracked | a tuple | a thing with a length -/
def Rda (K : PySem.W.Frag) (ρ : Cl) (A : OA) (d : PyData) : Prop := ∀ {G H : Hp} {T : Cl} {t σ : L2.St} {F Fv : List Addr} {v : V}, T.length = t.length → Cs G H (T ++ ρ) (t ++ σ) F → Ex G H → A.P G H v Fv → Dp K H v d
def Rls (K : PySem.W.Frag) (ρ : Cl) (A : OA) (ds : List PyData) : Prop := ∀ {G H : Hp} {T : Cl} {t σ : L2.St} {F Fv : List Addr} {v : V}, T.length = t.length → Cs G H (T ++ ρ) (t ++ σ) F → Ex G H → A.P G H v Fv → ∃ a xs, v = .ref a ∧ SqL K H a xs ∧ DqAll K G xs ds
def Rlm (K : PySem.W.Frag) (ρ : Cl) (A : OA) (ds : List PyData) : Prop := ∀ {G H : Hp} {T : Cl} {t σ : L2.St} {F Fv : List Addr} {v : V}, T.length = t.length → Cs G H (T ++ ρ) (t ++ σ) F → Ex G H → A.P G H v Fv → ∃ a xs, v = .ref a ∧ H a = some (.lst xs) ∧ DqAll K G xs ds
def Rtu (K : PySem.W.Frag) (ρ : Cl) (A : OA) (ds : List PyData) : Prop := ∀ {G H : Hp} {T : Cl} {t σ : L2.St} {F Fv : List Addr} {v : V}, T.length = t.length → Cs G H (T ++ ρ) (t ++ σ) F → Ex G H → A.P G H v Fv → ∃ a xs, v = .ref a ∧ SqT K H a xs ∧ DqAll K G xs ds
def Rsq (K : PySem.W.Frag) (ρ : Cl) (A : OA) (n : Nat) : Prop := ∀ {G H : Hp} {T : Cl} {t σ : L2.St} {F Fv : List Addr} {v : V}, T.length = t.length → Cs G H (T ++ ρ) (t ++ σ) F → Ex G H → A.P G H v Fv → ∃ a xs, v = .ref a ∧ (SqL K H a xs ∨ SqT K H a xs) ∧ xs.length = n
section
variable {K : PySem.W.Frag} {ρ : Cl} {A : OA} {ds : List PyData} {d : PyData}
theorem Rlm.ls (h : Rlm K ρ A ds) : Rls K ρ A ds := fun l c e p => by
  obtain ⟨a, xs, e1, e2, e3⟩ := h l c e p
  exact ⟨a, xs, e1, .inl (.inl e2), e3⟩
theorem Rls.da (h : Rls K ρ A ds) : Rda K ρ A (.list ds) := fun l c e p => by
  obtain ⟨a, xs, e1, e2, e3⟩ := h l c e p
  subst e1
  exact .lst e2 (DqAll.dp _ _ (DqAll.mono e _ _ e3))
theorem Rls.sq (h : Rls K ρ A ds) : Rsq K ρ A ds.length := fun l c e p => by
  obtain ⟨a, xs, e1, e2, e3⟩ := h l c e p
  exact ⟨a, xs, e1, .inl e2, e3.len⟩
theorem Rtu.da (h : Rtu K ρ A ds) : Rda K ρ A (.tuple ds) := fun l c e p => by
  obtain ⟨a, xs, e1, e2, e3⟩ := h l c e p
  subst e1
  exact .tup e2 (DqAll.dp _ _ (DqAll.mono e _ _ e3))
theorem Rtu.sq (h : Rtu K ρ A ds) : Rsq K ρ A ds.length := fun l c e p => by
  obtain ⟨a, xs, e1, e2, e3⟩ := h l c e p
  exact ⟨a, xs, e1, .inr e2, e3.len⟩
theorem Rlm.da (h : Rlm K ρ A ds) : Rda K ρ A (.list ds) := Rls.da (Rlm.ls h)
theorem Rlm.sq (h : Rlm K ρ A ds) : Rsq K ρ A ds.length := Rls.sq (Rlm.ls h)
theorem rdD : Rda K ρ (aD K d) d := fun l c e p => Dq.dp _ _ (Dq.mono e _ _ p.1)
theorem rmD : Rlm K ρ (aD K (.list ds)) ds := fun l c e p => by
  obtain ⟨q, _⟩ := p
  cases q with
  | lst h1 h2 => exact ⟨_, _, rfl, e _ _ h1, h2⟩
theorem rlD : Rls K ρ (aD K (.list ds)) ds := rmD.ls
theorem rtD : Rtu K ρ (aD K (.tuple ds)) ds := fun l c e p => by
  obtain ⟨q, _⟩ := p
  cases q with
  | tup h1 h2 => exact ⟨_, _, rfl, e.st h1, h2⟩
theorem rlR : Rls K ρ (aR K ds) ds := fun l c e p => by
  obtain ⟨⟨a, xs, e1, e2, e3⟩, _⟩ := p
  exact ⟨a, xs, e1, e.sl e2, e3⟩
theorem rmL : Rlm K ρ (aLD K ds) ds := fun l c e p => by
  obtain ⟨p, vs, F', e1, e2, h1, c1⟩ := p
  obtain ⟨q1, q2⟩ := csD c1
  exact ⟨p, vs, e1, h1, q1⟩
theorem rmO (i : Nat) {v0 : V} (h : ρ[i]? = some (some (pin v0 (aLD K ds)))) : Rlm K ρ (aV v0) ds := fun l c e p => by
  obtain ⟨e0, _⟩ := p
  obtain ⟨v, F1, F2, e1, e2, ⟨e3, q⟩, c2⟩ := c.slot l h
  subst e0 e3
  exact rmL l c e q
/-- an owned list of whatever: its length -/
theorem rsL {As : List OA} : Rsq K ρ (aL As) As.length := fun l c e p => by
  obtain ⟨p, vs, F', e1, e2, h1, c1⟩ := p
  have := c1.len
  exact ⟨p, vs, e1, .inl (.inl (.inl h1)), by simpa using this.symm⟩
theorem rsO (i : Nat) {v0 : V} {As : List OA} (h : ρ[i]? = some (some (pin v0 (aL As)))) : Rsq K ρ (aV v0) As.length := fun l c e p => by
  obtain ⟨e0, _⟩ := p
  obtain ⟨v, F1, F2, e1, e2, ⟨e3, q⟩, c2⟩ := c.slot l h
  subst e0 e3
  exact rsL l c e q
end

/-! ### two things, one thing on the top -/
theorem ST.two {E : Ent} {A B : OA} {L : Cl} {C : L2.St} {H : Hp} {v w : V} (h : ST E (some B :: some A :: L) (some w :: some v :: C) H) : ∃ G F Fv Fw, Frm E G H F ∧ Cs G H L C F ∧ A.P G H v Fv ∧ B.P G H w Fw := by
  obtain ⟨G, F, f, w', F1, F2, e1, e2, b, v', F3, F4, e3, e4, a, c⟩ := h
  cases e1
  cases e3
  subst e2 e4
  exact ⟨G, F4, F3, F1, f.less ((List.sublist_append_right _ _).trans (List.sublist_append_right _ _)), c, a, b⟩
theorem ST.one {E : Ent} {A : OA} {L : Cl} {C : L2.St} {H : Hp} {v : V} (h : ST E (some A :: L) (some v :: C) H) : ∃ G F Fv, Frm E G H F ∧ Cs G H L C F ∧ A.P G H v Fv := by
  obtain ⟨G, F, f, w', F1, F2, e1, e2, b, c⟩ := h
  cases e1
  subst e2
  exact ⟨G, F2, F1, f.less (List.sublist_append_right _ _), c, b⟩
/-- a new owned list of data on the top -/
theorem ST.newL {E : Ent} {K : PySem.W.Frag} {L : Cl} {C : L2.St} {G H : Hp} {F : List Addr} {p : Addr} {vs : List V} {ds : List PyData} (f : Frm E G H F) (c : Cs G H L C F) (n : H p = none) (q : DqAll K G vs ds) : ST E (some (aLD K ds) :: L) (some (.ref p) :: C) (upd H p (.lst vs)) := by
  obtain ⟨f1, st⟩ := f.step (Fa := []) (Fr := F) (by simp) (Frm.alloc (o := .lst vs) f.gh n)
  have c1 : Cs G (upd H p (.lst vs)) L C F := c.mono (.refl _) f1.gh st
  exact ⟨G, _, f1, .ref p, [p], F, rfl, rfl, ⟨p, vs, [], rfl, rfl, upd_same, csD' q⟩, c1⟩
/-- a new tuple of data -/
theorem ST.newT {E : Ent} {K : PySem.W.Frag} {L : Cl} {C : L2.St} {G H : Hp} {F : List Addr} {p : Addr} {vs : List V} {ds : List PyData} (f : Frm E G H F) (c : Cs G H L C F) (n : H p = none) (q : DqAll K G vs ds) : ST E (some (aD K (.tuple ds)) :: L) (some (.ref p) :: C) (upd H p (.tup vs)) := by
  obtain ⟨f1, st⟩ := f.step (Fa := []) (Fr := F) (by simp) (Frm.allocG (o := .tup vs) f.gh n)
  have c1 : Cs (upd G p (.tup vs)) (upd H p (.tup vs)) L C F := c.mono (Ex.new (by
    cases q : G p with
    | none => rfl
    | some u => rw [f.gh p u q] at n; cases n)) f1.gh st
  refine ⟨_, _, f1, .ref p, [], F, rfl, rfl, ⟨.tup (.inl (.inl upd_same)) (DqAll.mono (Ex.new ?_) _ _ q), rfl⟩, by simpa using c1⟩
  cases q : G p with
  | none => rfl
  | some u => rw [f.gh p u q] at n; cases n

section
variable {X : Cx} {ρ ρ1 ρ2 ρ3 : Cl} {a b c : Expr} {pos : Pos} {A B : OA} {d d1 d2 : PyData} {ds es : List PyData}
/-- an owned list that is not changed any more -/
theorem xe_frz (h : XE X a ρ ρ1 (aLD X.K ds)) : XE X a ρ ρ1 (aD X.K (.list ds)) := fun E T t σ H l st Q k => h E T t σ H l st Q fun v H' st1 => by
  obtain ⟨G, F, f, w, F1, F2, e1, e2, ⟨p, vs, F', e3, e4, h1, c1⟩, cs⟩ := st1
  obtain ⟨q1, q2⟩ := csD c1
  cases e1
  subst e2 e3 e4 q2
  have g : G p = none := f.dis p (by simp)
  obtain ⟨f1, st⟩ := f.step (Fa := [p]) (Fr := F2) (by simp) (Frm.freeze f.gh g h1)
  exact k _ _ ⟨_, _, f1, .ref p, [], F2, rfl, rfl, ⟨.lst upd_same (DqAll.mono (.new g) _ _ q1), rfl⟩, by simpa using cs.mono (.new g) f1.gh st⟩
/-- the same thing, said otherwise -/
theorem xe_is (h : XE X a ρ ρ1 A) (e : A = B) : XE X a ρ ρ1 B := e ▸ h
theorem xe_isD (h : XE X a ρ ρ1 (aD X.K d)) (e : d = d1) : XE X a ρ ρ1 (aD X.K d1) := e ▸ h

theorem xk_eqD {op : CmpOp} {neg : Bool} {k : Bool} (ho : OpR X (compareOp op) (fun x y H Q => ∃ d e, Dp X.K H x d ∧ Dp X.K H y e ∧ SeqAt.shaped d = true ∧ SeqAt.shaped e = true ∧ Q (.bl (if neg then !PyData.eqv d e else PyData.eqv d e)) H)) (hm : behindInMarks op b = false)
    (ha : XE X a ρ ρ1 A) (hb : XE X b ρ1 ρ2 B) (ra : Rda X.K ρ2 A d1) (rb : Rda X.K ρ2 B d2) (s1 : SeqAt.shaped d1 = true) (s2 : SeqAt.shaped d2 = true) (he : PyData.eqv d1 d2 = k) : XKm X (.Compare a [op] [b] pos) ρ ρ2 (if neg then !k else k) :=
  ⟨_, pe_cmpR ho peS peS hm, pt_cmpR ho peS peS hm, fun E T t σ H l st Q kk => ha E T t σ H l st _ fun x H1 st1 => hb E (_ :: T) (_ :: t) σ H1 (by simp [l]) st1 _ fun y H2 st2 => by
    obtain ⟨G, F, Fv, Fw, f, cs, q1, q2⟩ := ST.two st2
    refine ⟨d1, d2, ra l cs f.gh q1, rb l cs f.gh q2, s1, s2, ?_⟩
    rw [he]
    exact kk _ H2 (ST.put f cs (.bl _))⟩
theorem xk_eq {k : Bool} (hu : X.A.units + 64 < cLine) (ha : XE X a ρ ρ1 A) (hb : XE X b ρ1 ρ2 B) (ra : Rda X.K ρ2 A d1) (rb : Rda X.K ρ2 B d2) (s1 : SeqAt.shaped d1 = true) (s2 : SeqAt.shaped d2 = true) (he : PyData.eqv d1 d2 = k) : XKm X (.Compare a [.Eq] [b] pos) ρ ρ2 k :=
  xk_eqD (neg := false) (op_eqD hu) (nomark _) ha hb ra rb s1 s2 he
theorem xk_ne {k : Bool} (hu : X.A.units + 64 < cLine) (ha : XE X a ρ ρ1 A) (hb : XE X b ρ1 ρ2 B) (ra : Rda X.K ρ2 A d1) (rb : Rda X.K ρ2 B d2) (s1 : SeqAt.shaped d1 = true) (s2 : SeqAt.shaped d2 = true) (he : PyData.eqv d1 d2 = k) : XKm X (.Compare a [.NotEq] [b] pos) ρ ρ2 (!k) :=
  xk_eqD (neg := true) (op_neD hu) (nomark _) ha hb ra rb s1 s2 he
def isN : PyData → Bool
  | .none => true
  | _ => false
theorem Dq.isN {K : PySem.W.Frag} {G : Hp} {v : V} (h : Dq K G v d) : decide (v = V.non) = Mr.isN d := by
  cases h <;> rfl
theorem xk_isNone {k : Bool} {j : Nat} {p' : Pos} (ha : XE X a ρ ρ1 (aD X.K d)) (hk : isN d = k) : XKm X (.Compare a [.Is] [.Constant .none j p'] pos) ρ ρ1 k :=
  ⟨_, pe_cmpR op_isN peS pe_non (nomark _), pt_cmpR op_isN peS pe_non (nomark _), fun E T t σ H l st Q kk => ha E T t σ H l st _ fun x H1 st1 => by
    obtain ⟨G, F, f, cs, q⟩ := ST.top st1
    refine ⟨rfl, ?_⟩
    rw [q.isN, hk]
    exact kk _ H1 (ST.put f cs (.bl _))⟩
theorem xk_notNone {k : Bool} {j : Nat} {p' : Pos} (ha : XE X a ρ ρ1 (aD X.K d)) (hk : isN d = k) : XKm X (.Compare a [.IsNot] [.Constant .none j p'] pos) ρ ρ1 (!k) :=
  ⟨_, pe_cmpR op_notN peS pe_non (nomark _), pt_cmpR op_notN peS pe_non (nomark _), fun E T t σ H l st Q kk => ha E T t σ H l st _ fun x H1 st1 => by
    obtain ⟨G, F, f, cs, q⟩ := ST.top st1
    refine ⟨rfl, ?_⟩
    rw [q.isN, hk]
    exact kk _ H1 (ST.put f cs (.bl _))⟩
/-- a chain of two comparisons of ints -/
theorem xk_chain {op op' : CmpOp} {g g' : Int → Int → Bool} {i j k : Int} (ho : OpR X (compareOp op) (rI0 fun i j => .bl (g i j))) (ho' : OpR X (compareOp op') (rI0 fun i j => .bl (g' i j))) (hm : lastMarks [op, op'] [b, c] = false)
    (ha : XE X a ρ ρ (aD X.K (.int i))) (hb : XE X b ρ ρ (aD X.K (.int j))) (hc : g i j = true → XE X c ρ ρ (aD X.K (.int k))) {r : Bool} (hres : (g i j && g' j k) = r) : XKm X (.Compare a [op, op'] [b, c] pos) ρ ρ r :=
  ⟨_, pe_chain ho ho' peS peS peS hm, pt_chain ho ho' peS peS peS hm, fun E T t σ H l st Q kk => by
   subst hres
   exact ha E T t σ H l st _ fun x H1 st1 => hb E (_ :: T) (_ :: t) σ H1 (by simp [l]) st1 _ fun y H2 st2 => by
    obtain ⟨G, F, f, cs, q1, q2⟩ := ST.top2 st2
    cases q1
    cases q2
    refine ⟨i, j, rfl, rfl, g i j, rfl, ?_⟩
    cases hg : g i j with
    | false =>
      rw [hg] at kk
      exact kk _ H2 (ST.put f cs (show Dq X.K G (.bl false) (.bool false) from .bl _))
    | true =>
      rw [hg] at kk
      refine hc hg E T t σ H2 l ⟨G, F, f, cs⟩ _ fun z H3 st3 => ?_
      obtain ⟨G, F, f, cs, q⟩ := ST.top st3
      cases q
      exact ⟨j, k, rfl, rfl, kk _ H3 (ST.put f cs (show Dq X.K G (.bl (g' j k)) (.bool (g' j k)) from .bl _))⟩⟩

/-! ### tests -/
theorem xt_v {k : Bool} (h : XE X a ρ ρ1 (aD X.K (.bool k))) (he : ∀ whole, isTrue a X.env whole = (do let v ← whole; standAt a.pos; holding [v] (truthy v)) := by intro _; rfl) : XT X a ρ ρ1 k := fun E T t σ H l st Q kk =>
  wT.of (pt_val peS he) (h E T t σ H l st _ fun x H1 st1 => by
    obtain ⟨G, F, f, cs, q⟩ := ST.top st1
    cases q
    exact ⟨k, rfl, kk H1 ⟨G, F, f, cs⟩⟩)
theorem xt_not {k : Bool} (h : XT X a ρ ρ1 k) : XT X (.UnaryOp .Not a pos) ρ ρ1 (!k) := fun E T t σ H l st Q kk => wT.of (pt_not ptS) (h E T t σ H l st _ fun H1 st1 => kk H1 st1)
theorem xt_w {k : Bool} (h : XW X a ρ ρ1 k) : XT X a ρ ρ1 k := fun E T t σ H l st Q kk => wT.of (PW.pt pwS) (h E T t σ H l st Q kk)
theorem xw_and1 {k : Bool} (h : XT X a ρ ρ1 k) : XW X (.BoolOp .And [a] pos) ρ ρ1 k := fun E T t σ H l st Q kk => wW.of (pw_and1 ptS) (h E T t σ H l st Q kk)
theorem xw_or1 {k : Bool} (h : XT X a ρ ρ1 k) : XW X (.BoolOp .Or [a] pos) ρ ρ1 k := fun E T t σ H l st Q kk => wW.of (pw_or1 ptS) (h E T t σ H l st Q kk)
theorem xw_and {k k2 : Bool} {rest : List Expr} (h : XT X a ρ ρ k) (h2 : k = true → XW X (.BoolOp .And (b :: rest) pos) ρ ρ k2) : XW X (.BoolOp .And (a :: b :: rest) pos) ρ ρ (k && k2) := fun E T t σ H l st Q kk => wW.of (pw_and ptS pwS) (h E T t σ H l st _ fun H1 st1 => by
  cases k with
  | true => exact h2 rfl E T t σ H1 l st1 Q kk
  | false => exact kk H1 st1)
theorem xw_or {k k2 : Bool} {rest : List Expr} (h : XT X a ρ ρ k) (h2 : k = false → XW X (.BoolOp .Or (b :: rest) pos) ρ ρ k2) : XW X (.BoolOp .Or (a :: b :: rest) pos) ρ ρ (k || k2) := fun E T t σ H l st Q kk => wW.of (pw_or ptS pwS) (h E T t σ H l st _ fun H1 st1 => by
  cases k with
  | false => exact h2 rfl E T t σ H1 l st1 Q kk
  | true => exact kk H1 st1)
/-- the truth of a list -/
theorem xt_list {n : Nat} (h : XE X a ρ ρ1 A) (r : Rsq X.K ρ1 A n) (hl : Rls X.K ρ1 A ds) (he : ∀ whole, isTrue a X.env whole = (do let v ← whole; standAt a.pos; holding [v] (truthy v)) := by intro _; rfl) : XT X a ρ ρ1 (!ds.isEmpty) := fun E T t σ H l st Q kk =>
  wT.of (pt_truth peS he) (h E T t σ H l st _ fun x H1 st1 => by
    obtain ⟨G, F, Fv, f, cs, q⟩ := ST.one st1
    obtain ⟨p, xs, e1, e2, e3⟩ := hl l cs f.gh q
    subst e1
    refine ⟨!ds.isEmpty, .inl ⟨xs, e2, ?_⟩, kk H1 ⟨G, F, f, cs⟩⟩
    have := e3.len
    cases xs <;> cases ds <;> simp_all)
/-- bools as values -/
theorem xe_not {k : Bool} (h : XE X a ρ ρ1 (aD X.K (.bool k))) : XE X (.UnaryOp .Not a pos) ρ ρ1 (aD X.K (.bool (!k))) := fun E T t σ H l st Q kk => wE.of (pe_not peS) (h E T t σ H l st _ fun x H1 st1 => by
  obtain ⟨G, F, f, cs, q⟩ := ST.top st1
  cases q
  exact ⟨k, rfl, kk _ H1 (ST.put f cs (.bl _))⟩)
theorem xe_one {op : BoolOp} (h : XE X a ρ ρ1 A) : XE X (.BoolOp op [a] pos) ρ ρ1 A := fun E T t σ H l st Q kk => wE.of (pe_one peS) (h E T t σ H l st Q kk)
theorem xe_and {k k2 : Bool} {rest : List Expr} (h : XE X a ρ ρ (aD X.K (.bool k))) (h2 : k = true → XE X (.BoolOp .And (b :: rest) pos) ρ ρ (aD X.K (.bool k2))) : XE X (.BoolOp .And (a :: b :: rest) pos) ρ ρ (aD X.K (.bool (k && k2))) := fun E T t σ H l st Q kk => wE.of (pe_and peS peS) (h E T t σ H l st _ fun x H1 st1 => by
  obtain ⟨G, F, f, cs, q⟩ := ST.top st1
  cases q
  refine ⟨k, rfl, ?_⟩
  cases k with
  | true => exact h2 rfl E T t σ H1 l ⟨G, F, f, cs⟩ Q kk
  | false => exact kk _ H1 (ST.put f cs (.bl _)))
theorem xe_or {k k2 : Bool} {rest : List Expr} (h : XE X a ρ ρ (aD X.K (.bool k))) (h2 : k = false → XE X (.BoolOp .Or (b :: rest) pos) ρ ρ (aD X.K (.bool k2))) : XE X (.BoolOp .Or (a :: b :: rest) pos) ρ ρ (aD X.K (.bool (k || k2))) := fun E T t σ H l st Q kk => wE.of (pe_or peS peS) (h E T t σ H l st _ fun x H1 st1 => by
  obtain ⟨G, F, f, cs, q⟩ := ST.top st1
  cases q
  refine ⟨k, rfl, ?_⟩
  cases k with
  | false => exact h2 rfl E T t σ H1 l ⟨G, F, f, cs⟩ Q kk
  | true => exact kk _ H1 (ST.put f cs (.bl _)))
theorem xe_if {k : Bool} (h : XT X c ρ ρ1 k) (h1 : k = true → XE X a ρ1 ρ2 A) (h2 : k = false → XE X b ρ1 ρ2 A) : XE X (.IfExp c a b pos) ρ ρ2 A := fun E T t σ H l st Q kk => wE.of (pe_ifExp ptS peS peS) (h E T t σ H l st _ fun H1 st1 => by
  cases k with
  | true => exact h1 rfl E T t σ H1 l st1 Q kk
  | false => exact h2 rfl E T t σ H1 l st1 Q kk)

/-! ### subscripts, slices, displays -/
theorem atI_dq {K : PySem.W.Frag} {G : Hp} {xs : List V} {i : Int} (h : DqAll K G xs ds) (ha : atI ds i = some d) : ∃ v, atI xs i = some v ∧ Dq K G v d := by
  unfold atI at ha ⊢
  rw [h.len]
  cases hk : ixN ds.length i with
  | none => rw [hk] at ha; cases ha
  | some j =>
    rw [hk] at ha
    exact h.get ha
theorem xe_ix {i : Int} (ha : XE X a ρ ρ1 A) (hb : XE X b ρ1 ρ2 (aD X.K (.int i))) (r : Rls X.K ρ2 A ds) (h : atI ds i = some d) (hs : PlainIx b := by exact fun _ _ => rfl) : XE X (.Subscript a b pos) ρ ρ2 (aD X.K d) := fun E T t σ H l st Q k =>
  wE.of (pe_ix ix_list peS peS hs) (ha E T t σ H l st _ fun x H1 st1 => hb E (_ :: T) (_ :: t) σ H1 (by simp [l]) st1 _ fun y H2 st2 => by
    obtain ⟨G, F, Fv, Fw, f, cs, q1, q2, _⟩ := ST.two st2
    cases q2
    obtain ⟨p, xs, e1, e2, e3⟩ := r l cs f.gh q1
    obtain ⟨v, e4, e5⟩ := atI_dq e3 h
    exact ⟨p, xs, i, v, e1, rfl, e2, e4, k v H2 (ST.put f cs e5)⟩)
theorem xe_ixT {i : Int} (ha : XE X a ρ ρ1 A) (hb : XE X b ρ1 ρ2 (aD X.K (.int i))) (r : Rtu X.K ρ2 A ds) (h : atI ds i = some d) (hs : PlainIx b := by exact fun _ _ => rfl) : XE X (.Subscript a b pos) ρ ρ2 (aD X.K d) := fun E T t σ H l st Q k =>
  wE.of (pe_ix ix_tup peS peS hs) (ha E T t σ H l st _ fun x H1 st1 => hb E (_ :: T) (_ :: t) σ H1 (by simp [l]) st1 _ fun y H2 st2 => by
    obtain ⟨G, F, Fv, Fw, f, cs, q1, q2, _⟩ := ST.two st2
    cases q2
    obtain ⟨p, xs, e1, e2, e3⟩ := r l cs f.gh q1
    obtain ⟨v, e4, e5⟩ := atI_dq e3 h
    exact ⟨p, xs, i, v, e1, rfl, e2, e4, k v H2 (ST.put f cs e5)⟩)
/-- an item of an owned list of mixed things that is data -/
theorem Cs.getD {K : PySem.W.Frag} {G H : Hp} : ∀ {As : List OA} {vs : List V} {F : List Addr} {j : Nat}, Cs G H (As.map some) (vs.map some) F → As[j]? = some (aD K d) → ∃ v, vs[j]? = some v ∧ Dq K G v d := fun {As vs F j} c h => by
  obtain ⟨v, F1, F2, e1, e2, ⟨q, _⟩, c2⟩ := c.split (i := j) (A := aD K d) (by rw [List.getElem?_map, h]; rfl)
  rw [List.getElem?_map] at e1
  cases hv : vs[j]? with
  | none => rw [hv] at e1; cases e1
  | some w =>
    rw [hv] at e1
    cases e1
    exact ⟨v, rfl, q⟩
theorem xe_ixO (i : Nat) {v0 : V} {As : List OA} {j : Nat} {n : Int} (ha : XE X a ρ ρ1 (aV v0)) (hb : XE X b ρ1 ρ2 (aD X.K (.int n))) (hp : ρ2[i]? = some (some (pin v0 (aL As)))) (hn : ixN As.length n = some j) (h : As[j]? = some (aD X.K d)) (hs : PlainIx b := by exact fun _ _ => rfl) :
    XE X (.Subscript a b pos) ρ ρ2 (aD X.K d) := fun E T t σ H l st Q k =>
  wE.of (pe_ix ix_list peS peS hs) (ha E T t σ H l st _ fun x H1 st1 => hb E (_ :: T) (_ :: t) σ H1 (by simp [l]) st1 _ fun y H2 st2 => by
    obtain ⟨G, F, Fv, Fw, f, cs, ⟨q1, _⟩, q2, _⟩ := ST.two st2
    cases q2
    obtain ⟨v, F1, F2, e1, e2, ⟨e3, p, vs, F', e4, e5, h1, c1⟩, c2⟩ := cs.slot l hp
    subst q1 e3 e4
    obtain ⟨w, hw, q⟩ := c1.getD h
    have hl : vs.length = As.length := by simpa using c1.len.symm
    exact ⟨p, vs, n, w, rfl, rfl, .inl (.inl h1), by unfold atI; rw [hl, hn]; exact hw, k w H2 (ST.put f cs q)⟩)
end
/-- xs[lo:hi] -/
def cutL {α : Type} (xs : List α) (lo hi : Option Int) : List α := (xs.drop (HT.sIx xs.length 0 lo)).take (HT.sIx xs.length xs.length hi - HT.sIx xs.length 0 lo)
theorem cutL_map {α β : Type} (f : α → β) (xs : List α) (lo hi : Option Int) : cutL (xs.map f) lo hi = (cutL xs lo hi).map f := by
  unfold cutL
  rw [List.length_map, List.map_take, List.map_drop]
theorem cut_dq {K : PySem.W.Frag} {G : Hp} {vs : List V} {ds : List PyData} (lo hi : Option Int) (h : DqAll K G vs ds) : DqAll K G (cutV vs lo hi) (cutL ds lo hi) := by
  unfold cutV cutL
  rw [h.len]
  exact (h.drop _).take _
def uO (X : Cx) : Option Expr → TO
  | none => tNoPart
  | some e => tPart (wE X e)
theorem uO_po {X : Cx} : ∀ e : Option Expr, PO X e (uO X e)
  | none => po_none
  | some _ => po_some peS
def XO (X : Cx) (e : Option Expr) (ρ ρ' : Cl) (o : Option Int) : Prop := match e, o with
  | none, none => ρ = ρ'
  | some e, some i => XE X e ρ ρ' (aD X.K (.int i))
  | _, _ => False
section
variable {X : Cx} {ρ ρ1 ρ2 ρ3 : Cl} {a b c : Expr} {pos p2 : Pos} {A B : OA} {d d1 d2 : PyData} {ds es : List PyData}
theorem xe_slice {lo hi : Option Expr} {i j : Option Int} (ha : XE X a ρ ρ1 A) (hl : XO X lo ρ1 ρ2 i) (hh : XO X hi ρ2 ρ3 j) (r : Rls X.K ρ3 A ds) : XE X (.Subscript a (.Slice lo hi none p2) pos) ρ ρ3 (aLD X.K (cutL ds i j)) := fun E T t σ H l st Q k => by
  have part : ∀ {o : Option Expr} {n : Option Int} {ρ ρ' : Cl} {x : V} {H2 : Hp} {R : Option Int → Hp → Prop}, XO X o ρ ρ' n → ST E (some A :: (T ++ ρ)) (some x :: (t ++ σ)) H2 → (∀ H3, ST E (some A :: (T ++ ρ')) (some x :: (t ++ σ)) H3 → R n H3) → uO X o σ H2 R := fun {o n ρ ρ' x H2 R} h st k => by
    match o, n, h with
    | none, none, h =>
      cases (show ρ = ρ' from h)
      exact k _ st
    | some e, some n, h =>
      refine (show XE X e ρ ρ' (aD X.K (.int n)) from h) E (_ :: T) (_ :: t) σ H2 (by simp [l]) st _ fun y H3 st3 => ?_
      obtain ⟨G, F, f, cs, q⟩ := ST.top st3
      cases q
      exact ⟨n, rfl, k _ ⟨G, F, f, cs⟩⟩
  refine wE.of (pe_slice sl_list peS (uO_po lo) (uO_po hi)) (ha E T t σ H l st _ fun x H1 st1 => part hl st1 fun H2 st2 => part hh st2 fun H3 st3 => ?_)
  obtain ⟨G, F, Fv, f, cs, q⟩ := ST.one st3
  obtain ⟨p, xs, e1, e2, e3⟩ := r l cs f.gh q
  exact ⟨p, xs, e1, e2, fun p' hp => k _ _ (ST.newL f cs hp (cut_dq i j e3))⟩
/-! ### argument lists -/
theorem xa_nil : XA X [] ρ ρ [] := fun E T t σ H l st Q k => wA.of pa_nil (k [] H rfl st)
theorem xa_cons {es : List Expr} {As : List OA} (h : XE X a ρ ρ1 A) (hr : XA X es ρ1 ρ2 As) (hs : starEach (a :: es) X.env = (false, eval a X.env) :: starEach es X.env := by rfl) : XA X (a :: es) ρ ρ2 (A :: As) := fun E T t σ H l st Q k =>
  wA.of (pa_cons peS paS hs) (h E T t σ H l st _ fun x H1 st1 => hr E (_ :: T) (_ :: t) σ H1 (by simp [l]) st1 _ fun xs H2 hl st2 => by
    refine k (x :: xs) H2 (by simp [hl]) ?_
    obtain ⟨G, F, f, cs⟩ := st2
    obtain ⟨F1, F2, e1, c1, c2⟩ := cs.unappend (by simp [hl])
    obtain ⟨v, F3, F4, e2, e3, p, c3⟩ := c2
    subst e1 e3
    have perm : (F1 ++ (F3 ++ F4)).Perm (F3 ++ (F1 ++ F4)) := by
      rw [← List.append_assoc, ← List.append_assoc]
      exact List.Perm.append_right F4 List.perm_append_comm
    exact ⟨G, _, f.perm perm, v, F3, F1 ++ F4, e2, rfl, p, c1.append c3⟩)
/-- data as arguments -/
theorem ST.args {E : Ent} {K : PySem.W.Frag} {L : Cl} {C : L2.St} {H : Hp} {vs : List V} {ds : List PyData} (hl : vs.length = ds.length) (st : ST E ((ds.map (aD K)).map some ++ L) (vs.map some ++ C) H) : ∃ G F, Frm E G H F ∧ Cs G H L C F ∧ DqAll K G vs ds := by
  obtain ⟨G, F, f, cs⟩ := st
  obtain ⟨F1, F2, e1, c1, c2⟩ := cs.unappend (by simp [hl])
  obtain ⟨q1, q2⟩ := csD c1
  subst e1 q2
  exact ⟨G, F2, by simpa using f, c2, q1⟩
theorem xe_tup {es : List Expr} {x1 : Nat} (h : XA X es ρ ρ1 (ds.map (aD X.K))) (hz : ds.length ≤ 1000) : XE X (.Tuple es x1 pos) ρ ρ1 (aD X.K (.tuple ds)) := fun E T t σ H l st Q k =>
  wE.of (pe_tup paS) (h E T t σ H l st _ fun vs H1 hl st1 => by
    have hl' : vs.length = ds.length := by simpa using hl
    obtain ⟨G, F, f, cs, q⟩ := ST.args hl' st1
    exact ⟨by rw [hl']; exact Nat.le_trans hz (by decide), fun p hp => k _ _ (ST.newT f cs hp q)⟩)
theorem xe_lst {es : List Expr} {As : List OA} (h : XA X es ρ ρ1 As) (hz : As.length ≤ 1000) : XE X (.List es pos) ρ ρ1 (aL As) := fun E T t σ H l st Q k =>
  wE.of (pe_lst paS) (h E T t σ H l st _ fun vs H1 hl st1 => by
    refine ⟨by rw [hl]; exact Nat.le_trans hz (by decide), fun p hp => k _ _ ?_⟩
    obtain ⟨G, F, f, cs⟩ := st1
    obtain ⟨F1, F2, e1, c1, c2⟩ := cs.unappend (by simp [hl])
    subst e1
    obtain ⟨f1, keep⟩ := f.step (Fa := []) (Fr := F1 ++ F2) (by simp) (Frm.alloc (o := .lst vs) f.gh hp)
    have c3 := c1.mono (.refl _) f1.gh fun b hb => keep b (List.mem_append_left _ hb)
    have c4 := c2.mono (.refl _) f1.gh fun b hb => keep b (List.mem_append_right _ hb)
    exact ⟨G, _, f1, .ref p, p :: F1, F2, rfl, by simp, ⟨p, vs, F1, rfl, rfl, upd_same, c3⟩, c4⟩)
theorem xe_cat (ha : XE X a ρ ρ1 A) (hb : XE X b ρ1 ρ2 B) (ra : Rlm X.K ρ2 A ds) (rb : Rlm X.K ρ2 B es) (hz : ds.length + es.length ≤ sizeLine) : XE X (.BinOp a .Add b pos) ρ ρ2 (aLD X.K (ds ++ es)) := fun E T t σ H l st Q k =>
  wE.of (pe_op op_cat peS peS) (ha E T t σ H l st _ fun x H1 st1 => hb E (_ :: T) (_ :: t) σ H1 (by simp [l]) st1 _ fun y H2 st2 => by
    obtain ⟨G, F, Fv, Fw, f, cs, q1, q2⟩ := ST.two st2
    obtain ⟨p, xs, e1, e2, e3⟩ := ra l cs f.gh q1
    obtain ⟨p', ys, e4, e5, e6⟩ := rb l cs f.gh q2
    exact ⟨p, p', xs, ys, e1, e4, e2, e5, by rw [e3.len, e6.len]; exact hz, fun p'' hp => k _ _ (ST.newL f cs hp (e3.append e6))⟩)
theorem dq_rep {K : PySem.W.Frag} {G : Hp} {vs : List V} (h : DqAll K G vs ds) : ∀ n : Nat, DqAll K G (List.replicate n vs).flatten (List.replicate n ds).flatten
  | 0 => .nil
  | n + 1 => by
    rw [List.replicate_succ, List.replicate_succ, List.flatten_cons, List.flatten_cons]
    exact h.append (dq_rep h n)
end
end Mr

set_option Elab.async false
set_option linter.all false
set_option maxRecDepth 100000
namespace Mr
open PySem PySem.Spec PyProof.Rows L2

/-! ### statements -/
section
variable {X : Cx} {ρ ρ1 ρ2 ρ3 : Cl} {a b c e : Expr} {pos p2 : Pos} {A B : OA} {d d1 d2 : PyData} {ds es : List PyData} {st : Stmt} {rest sts : List Stmt} {ω β γ : Type} {m : Option ω} {Φ : ω → Ent → Ends → Prop} {R : γ → Cl} {N : β → Cl}
theorem xg_bind {α : Type} {m1 : Option α} {k : α → Option ω} (h : ∀ x, m1 = some x → XG X sts ρ (k x) Φ) : XG X sts ρ (m1.bind k) Φ := fun o ho => by
  cases hm : m1 with
  | none => rw [hm] at ho; cases ho
  | some x => rw [hm] at ho; exact h x hm o ho
/-- a name for a value -/
def lett {α β : Type} (v : α) (k : α → β) : β := k v
theorem xg_lett {α : Type} {v : α} {k : α → Option ω} (h : ∀ x, v = x → XG X sts ρ (k x) Φ) : XG X sts ρ (lett v k) Φ := h v rfl
theorem xg_wk (w : Wk ρ ρ1) (h : XG X sts ρ1 m Φ) : XG X sts ρ m Φ := fun o ho E σ H D st k => h o ho E σ H D (st.wk w) k
theorem xg_ite {p : Prop} [Decidable p] {m1 m2 : Option ω} (h1 : p → XG X sts ρ m1 Φ) (h2 : ¬ p → XG X sts ρ m2 Φ) : XG X sts ρ (if p then m1 else m2) Φ := by
  by_cases h : p
  · rw [if_pos h]; exact h1 h
  · rw [if_neg h]; exact h2 h
/-- the value of an owned thing is named -/
theorem xg_pin (i : Nat) (h : ρ[i]? = some (some A)) (k : ∀ v, XG X sts (ρ.set i (some (pin v A))) m Φ) : XG X sts ρ m Φ := fun o ho E σ H D st q => by
  obtain ⟨G, F, f, c⟩ := st
  obtain ⟨v, F1, F2, e1, e2, p, c2⟩ := Cs.slot (T := []) (t := []) rfl (by simpa using c) h
  obtain ⟨F3, e3, c3⟩ := Cs.back (T := []) (t := []) (A := pin v A) rfl c2 (lt_of_get h) e1 ⟨rfl, p⟩
  exact k v o ho E σ H D ⟨G, F3, f.perm (e2.trans e3.symm), by simpa using c3⟩ q
/-- at the end -/
theorem xg_nilS {b : β} (w : Wk ρ (N b)) : XG X [] ρ (some b) (oS N) := fun o ho E σ H D st q => by
  cases ho
  exact wS.of pss_nil (q σ H (st.wk w))
theorem xg_nilB {b : β} (w : Wk ρ (N b)) : XG X [] ρ (some (Sum.inr b)) (oB R N) := fun o ho E σ H D st q => by
  cases ho
  exact wS.of pss_nil (q σ H (st.wk w))
theorem xg_ret {r : γ} (h : XE X e ρ ρ1 A) (w : Wk (some A :: ρ1) (R r)) : XG X (.Return (some e) pos :: rest) ρ (some r) (oR R) := fun o ho E σ H D st q => by
  cases ho
  exact wS.of (pss_cons (ps_ret peS) pssS) (h E [] [] σ H rfl st _ fun v H' st1 => q v σ H' (ST.wk st1 w))
theorem xg_retB {r : γ} (h : XE X e ρ ρ1 A) (w : Wk (some A :: ρ1) (R r)) : XG X (.Return (some e) pos :: rest) ρ (some (Sum.inl r)) (oB R N) := fun o ho E σ H D st q => by
  cases ho
  exact wS.of (pss_cons (ps_ret peS) pssS) (h E [] [] σ H rfl st _ fun v H' st1 => q v σ H' (ST.wk st1 w))
theorem ST.putN {E : Ent} (K : PySem.W.Frag) {σ : L2.St} {H : Hp} (h : ST E ρ σ H) : ST E (some (aD K .none) :: ρ) (some .non :: σ) H := by
  obtain ⟨G, F, f, c⟩ := h
  exact ST.put f c .non
theorem xg_retN {r : γ} (w : Wk (some (aD X.K .none) :: ρ) (R r)) : XG X (.Return none pos :: rest) ρ (some r) (oR R) := fun o ho E σ H D st q => by
  cases ho
  exact wS.of (pss_cons ps_retN pssS) (q .non σ H (ST.wk (ST.putN X.K st) w))
theorem xg_retNB {r : γ} (w : Wk (some (aD X.K .none) :: ρ) (R r)) : XG X (.Return none pos :: rest) ρ (some (Sum.inl r)) (oB R N) := fun o ho E σ H D st q => by
  cases ho
  exact wS.of (pss_cons ps_retN pssS) (q .non σ H (ST.wk (ST.putN X.K st) w))
theorem xg_pass (h : XG X rest ρ m Φ) (q : PS X st tNext) : XG X (st :: rest) ρ m Φ := fun o ho E σ H D s1 k => wS.of (pss_cons q pssS) (h o ho E σ H D s1 k)
/-- x = e -/
theorem xg_asg (i : Nat) {x : Str} {pos' : Pos} (he : XE X e ρ ρ1 A) (h : XG X rest (ρ1.set i (some A)) m Φ) (hl : i < ρ1.length := by exact Nat.le_of_ble_eq_true rfl) (hN : X.N.Nodup := by assumption) (hi : X.N[i]? = some x := by rfl) (hx : Loc X.env.scope x := by first | exact .inl rfl | exact .inr rfl)
    (hs : swapsWith e (some (.Name x pos')) pos.line X.env = pure false := by rfl) (hf : X.fn x = true ∨ X.env.scope.names.lookup x = some .local := by first | exact .inl rfl | exact .inr rfl | assumption) : XG X (.Assign [.Name x pos'] e pos :: rest) ρ m Φ := fun o ho E σ H D st q =>
  wS.of (pss_cons (ps_set hN hi hx peS hs hf) pssS) (he E [] [] σ H rfl st _ fun v H' st1 => h o ho E _ H' D (ST.assign st1 hl) q)
/-- x = e, the thing is owned: its value is named -/
theorem xg_asgP (i : Nat) {x : Str} {pos' : Pos} (he : XE X e ρ ρ1 A) (h : ∀ v, XG X rest (ρ1.set i (some (pin v A))) m Φ) (hl : i < ρ1.length := by exact Nat.le_of_ble_eq_true rfl) (hN : X.N.Nodup := by assumption) (hi : X.N[i]? = some x := by rfl) (hx : Loc X.env.scope x := by first | exact .inl rfl | exact .inr rfl)
    (hs : swapsWith e (some (.Name x pos')) pos.line X.env = pure false := by rfl) (hf : X.fn x = true ∨ X.env.scope.names.lookup x = some .local := by first | exact .inl rfl | exact .inr rfl | assumption) : XG X (.Assign [.Name x pos'] e pos :: rest) ρ m Φ :=
  xg_asg i he (xg_pin i (List.getElem?_set_self hl) fun v => by rw [set_set]; exact h v) hl hN hi hx hs hf
theorem xg_expr (he : XE X e ρ ρ1 A) (h : XG X rest ρ1 m Φ) (hs : swapsWith e none pos.line X.env = pure false := by rfl) : XG X (.Expr e pos :: rest) ρ m Φ := fun o ho E σ H D st q =>
  wS.of (pss_cons (ps_expr peS hs) pssS) (he E [] [] σ H rfl st _ fun v H' st1 => h o ho E σ H' D st1.pop q)
/-- x op= e, ints -/
theorem xg_augI (i : Nat) {x : Str} {pos' : Pos} {op : Operator} {g : Int → Int → Int} {n k : Int} (ho : PIp X op (ipI g)) (hx0 : ρ[i]? = some (some (aD X.K (.int n)))) (he : XE X e ρ ρ1 (aD X.K (.int k))) (h : XG X rest (ρ1.set i (some (aD X.K (.int (g n k))))) m Φ) (hl : i < ρ1.length := by exact Nat.le_of_ble_eq_true rfl) (hN : X.N.Nodup := by assumption)
    (hi : X.N[i]? = some x := by rfl) (hx : Loc X.env.scope x := by first | exact .inl rfl | exact .inr rfl) (hf : X.fn x = true ∨ X.env.scope.names.lookup x = some .local := by first | exact .inl rfl | exact .inr rfl | assumption) : XG X (.AugAssign (.Name x pos') op e pos :: rest) ρ m Φ := fun o ho' E σ H D st q => by
  have st0 := st
  obtain ⟨G, F, f, cs⟩ := st
  obtain ⟨v, F1, F2, e1, e2, ⟨q1, e3⟩, c2⟩ := Cs.slot (T := []) (t := []) rfl cs hx0
  cases q1
  refine wS.of (pss_cons (ps_aug hN hi hx peS ho hf) pssS) ⟨.int n, e1, he E [] [] σ H rfl st0 _ fun v H' st1 => ?_⟩
  obtain ⟨G, F, f, c, q2⟩ := ST.top st1
  cases q2
  exact ⟨n, k, rfl, rfl, h o ho' E _ H' D (ST.assign (ST.put (v := .int (g n k)) f c (.int _)) hl) q⟩
/-- if -/
theorem xg_if {k : Bool} {t u : List Stmt} {m1 m2 : Option β} {kk : β → Option ω} (hc : XT X c ρ ρ1 k) (h1 : k = true → XG X t ρ1 m1 (oS N)) (h2 : k = false → XG X u ρ1 m2 (oS N)) (h : ∀ s, XG X rest (N s) (kk s) Φ) : XG X (.If c t u pos :: rest) ρ ((if k = true then m1 else m2).bind kk) Φ :=
  xg_bind fun s hs o ho E σ H D st q => wS.of (pss_cons (ps_if ptS pssS pssS) pssS) (hc E [] [] σ H rfl st _ fun H1 st1 => by
    cases k with
    | true => exact h1 rfl s hs E σ H1 { D with nx := wS X rest D } st1 fun σ' H' st2 => h s o ho E σ' H' D st2 q
    | false => exact h2 rfl s hs E σ H1 { D with nx := wS X rest D } st1 fun σ' H' st2 => h s o ho E σ' H' D st2 q)
/-- if c: (it returns); what follows is the other branch and the rest -/
theorem xg_ifR {k : Bool} {t u : List Stmt} {m1 : Option γ} {m2 : Option γ} (hc : XT X c ρ ρ1 k) (h1 : k = true → XG X t ρ1 m1 (oR R)) (h2 : k = false → XG X rest ρ1 m2 (oR R)) : XG X (.If c t [] pos :: rest) ρ (if k = true then m1 else m2) (oR R) := fun o ho E σ H D st q =>
  wS.of (pss_cons (ps_if ptS pssS pssS) pssS) (hc E [] [] σ H rfl st _ fun H1 st1 => by
    cases k with
    | true => exact h1 rfl o ho E σ H1 { D with nx := wS X rest D } st1 q
    | false => exact wS.of pss_nil (h2 rfl o ho E σ H1 D st1 q))
theorem xg_ifRB {k : Bool} {t u : List Stmt} {m1 : Option γ} {m2 : Option (γ ⊕ β)} (hc : XT X c ρ ρ1 k) (h1 : k = true → XG X t ρ1 m1 (oR R)) (h2 : k = false → XG X rest ρ1 m2 (oB R N)) : XG X (.If c t [] pos :: rest) ρ (if k = true then m1.map Sum.inl else m2) (oB R N) := fun o ho E σ H D st q =>
  wS.of (pss_cons (ps_if ptS pssS pssS) pssS) (hc E [] [] σ H rfl st _ fun H1 st1 => by
    cases k with
    | true =>
      rw [if_pos rfl] at ho
      cases m1 with
      | none => cases ho
      | some r =>
        cases ho
        exact h1 rfl r rfl E σ H1 { D with nx := wS X rest D } st1 q
    | false => exact wS.of pss_nil (h2 rfl o ho E σ H1 D st1 q))
/-- both return -/
theorem xg_ifRR {k : Bool} {t u : List Stmt} {m1 m2 : Option γ} (hc : XT X c ρ ρ1 k) (h1 : k = true → XG X t ρ1 m1 (oR R)) (h2 : k = false → XG X u ρ1 m2 (oR R)) : XG X (.If c t u pos :: rest) ρ (if k = true then m1 else m2) (oR R) := fun o ho E σ H D st q =>
  wS.of (pss_cons (ps_if ptS pssS pssS) pssS) (hc E [] [] σ H rfl st _ fun H1 st1 => by
    cases k with
    | true => exact h1 rfl o ho E σ H1 { D with nx := wS X rest D } st1 q
    | false => exact h2 rfl o ho E σ H1 { D with nx := wS X rest D } st1 q)
/-- a block of both kinds, then the rest -/
def thenR {ω : Type} (m : Option (γ ⊕ β)) (k : β → Option ω) (f : γ → ω) : Option ω := m.bind fun o => match o with
  | .inl r => some (f r)
  | .inr b => k b
theorem xg_ifB {k : Bool} {t u : List Stmt} {m1 m2 : Option (γ ⊕ β)} {kk : β → Option γ} (hc : XT X c ρ ρ1 k) (h1 : k = true → XG X t ρ1 m1 (oB R N)) (h2 : k = false → XG X u ρ1 m2 (oB R N)) (h : ∀ s, XG X rest (N s) (kk s) (oR R)) : XG X (.If c t u pos :: rest) ρ (thenR (if k = true then m1 else m2) kk id) (oR R) :=
  xg_bind fun s hs o ho E σ H D st q => wS.of (pss_cons (ps_if ptS pssS pssS) pssS) (hc E [] [] σ H rfl st _ fun H1 st1 => by
    have fin : ∀ {v : List Stmt} {m : Option (γ ⊕ β)}, XG X v ρ1 m (oB R N) → m = some s → wS X v { D with nx := wS X rest D } σ H1 := fun {v m} hv hm => by
      refine hv s hm E σ H1 { D with nx := wS X rest D } st1 ?_
      cases s with
      | inl r => cases ho; exact q
      | inr b => exact fun σ' H' st2 => h b o ho E σ' H' D st2 q
    cases k with
    | true => exact fin (h1 rfl) hs
    | false => exact fin (h2 rfl) hs)
theorem xg_ifBB {β' : Type} {N' : β' → Cl} {k : Bool} {t u : List Stmt} {m1 m2 : Option (γ ⊕ β)} {kk : β → Option (γ ⊕ β')} (hc : XT X c ρ ρ1 k) (h1 : k = true → XG X t ρ1 m1 (oB R N)) (h2 : k = false → XG X u ρ1 m2 (oB R N)) (h : ∀ s, XG X rest (N s) (kk s) (oB R N')) : XG X (.If c t u pos :: rest) ρ (thenR (if k = true then m1 else m2) kk Sum.inl) (oB R N') :=
  xg_bind fun s hs o ho E σ H D st q => wS.of (pss_cons (ps_if ptS pssS pssS) pssS) (hc E [] [] σ H rfl st _ fun H1 st1 => by
    have fin : ∀ {v : List Stmt} {m : Option (γ ⊕ β)}, XG X v ρ1 m (oB R N) → m = some s → wS X v { D with nx := wS X rest D } σ H1 := fun {v m} hv hm => by
      refine hv s hm E σ H1 { D with nx := wS X rest D } st1 ?_
      cases s with
      | inl r => cases ho; exact q
      | inr b => exact fun σ' H' st2 => h b o ho E σ' H' D st2 q
    cases k with
    | true => exact fin (h1 rfl) hs
    | false => exact fin (h2 rfl) hs)
/-- a block that only goes on | only returns, as one of both kinds -/
theorem xg_SB {m : Option β} (h : XG X sts ρ m (oS N)) : XG X sts ρ (m.map Sum.inr) (oB R N) := fun o ho E σ H D st q => by
  cases m with
  | none => cases ho
  | some r => cases ho; exact h r rfl E σ H D st q
theorem xg_RB {m : Option γ} (h : XG X sts ρ m (oR R)) : XG X sts ρ (m.map Sum.inl) (oB R N) := fun o ho E σ H D st q => by
  cases m with
  | none => cases ho
  | some r => cases ho; exact h r rfl E σ H D st q

end
/-! ### targets -/
def wG (X : Cx) (tg : Expr) : TG := fun v σ H Q => ∀ pins s u, Inv X pins σ H s → RelV v u → wpAny (model X.prog X.w) X.A (assign tg X.env u) (fun _ s' => ∃ σ' H', Inv X pins σ' H' s' ∧ Q σ' H') X.xe s
theorem pgS {X : Cx} {tg : Expr} : PG X tg (wG X tg) := ⟨fun pins s _ _ _ u _ I r h => h pins s u I r⟩
theorem wG.of {X : Cx} {tg : Expr} {g : TG} (h : PG X tg g) {v : V} {σ : L2.St} {H : Hp} {Q : L2.St → Hp → Prop} (q : g v σ H Q) : wG X tg v σ H Q := fun pins s u I r => h.run pins s σ H v u Q I r q
theorem wG.mono {X : Cx} {tg : Expr} {v : V} {σ : L2.St} {H : Hp} {P P' : L2.St → Hp → Prop} (h : wG X tg v σ H P) (k : ∀ σ' H', P σ' H' → P' σ' H') : wG X tg v σ H P' := fun pins s u I r => thn (h pins s u I r) fun _ _ ⟨σ', H', I', q⟩ => ⟨σ', H', I', k _ _ q⟩
/-- a thing of which A holds is stored: ρ becomes ρ' -/
def XP (X : Cx) (tg : Expr) (A : OA) (ρ ρ' : Cl) : Prop := ∀ (E : Ent) (T : Cl) (t σ : L2.St) (H : Hp) (v : V), T.length = t.length → ST E (some A :: (T ++ ρ)) (some v :: (t ++ σ)) H → ∀ Q : L2.St → Hp → Prop, (∀ σ' H', ST E (T ++ ρ') (t ++ σ') H' → Q σ' H') → wG X tg v σ H Q
theorem ST.assignT {E : Ent} {T ρ : Cl} {t σ : L2.St} {H : Hp} {A : OA} {v : V} {i : Nat} (l : T.length = t.length) (h : ST E (some A :: (T ++ ρ)) (some v :: (t ++ σ)) H) (hi : i < ρ.length) : ST E (T ++ ρ.set i (some A)) (t ++ σ.set i (some v)) H := by
  have q := ST.assign (i := T.length + i) h (by rw [List.length_append]; omega)
  rwa [append_set_right, l, append_set_right] at q
section
variable {X : Cx} {ρ ρ1 ρ2 ρ3 : Cl} {a b c e tg : Expr} {pos p2 : Pos} {A B : OA} {d d1 d2 : PyData} {ds es : List PyData} {st : Stmt} {rest sts body : List Stmt} {ω β γ α : Type} {m : Option ω} {Φ : ω → Ent → Ends → Prop} {R : γ → Cl} {N : β → Cl}
theorem xp_nm (i : Nat) {x : Str} (hl : i < ρ.length := by exact Nat.le_of_ble_eq_true rfl) (hN : X.N.Nodup := by assumption) (hi : X.N[i]? = some x := by rfl) (hx : Loc X.env.scope x := by first | exact .inl rfl | exact .inr rfl) (hf : X.fn x = true ∨ X.env.scope.names.lookup x = some .local := by first | exact .inl rfl | exact .inr rfl | assumption) :
    XP X (.Name x pos) A ρ (ρ.set i (some A)) := fun E T t σ H v l st Q k => wG.of (pg_name hN hi hx hf) (k _ _ (ST.assignT l st hl))
/-- several targets -/
def wGs (X : Cx) (ts : List Expr) : TGs := fun vs σ H Q => ∀ pins s us, Inv X pins σ H s → Vals vs us → wpAny (model X.prog X.w) X.A (assignInOrder ((assignEach ts X.env).map (·.2)) us) (fun _ s' => ∃ σ' H', Inv X pins σ' H' s' ∧ Q σ' H') X.xe s
theorem pgsS {X : Cx} {ts : List Expr} : PGs X ts (wGs X ts) := ⟨fun pins s _ _ _ us _ I r h => h pins s us I r⟩
theorem wGs.of {X : Cx} {ts : List Expr} {g : TGs} (h : PGs X ts g) {vs : List V} {σ : L2.St} {H : Hp} {Q : L2.St → Hp → Prop} (q : g vs σ H Q) : wGs X ts vs σ H Q := fun pins s us I r => h.run pins s σ H vs us Q I r q
def XPs (X : Cx) (ts : List Expr) (ds : List PyData) (ρ ρ' : Cl) : Prop := ∀ (E : Ent) (T : Cl) (t σ : L2.St) (H : Hp) (vs : List V), T.length = t.length → vs.length = ds.length → ST E ((ds.map (aD X.K)).map some ++ (T ++ ρ)) (vs.map some ++ (t ++ σ)) H → ∀ Q : L2.St → Hp → Prop, (∀ σ' H', ST E (T ++ ρ') (t ++ σ') H' → Q σ' H') → wGs X ts vs σ H Q
theorem xps_nil : XPs X [] [] ρ ρ := fun E T t σ H vs l hl st Q k => by
  cases vs with
  | nil => exact wGs.of pgs_nil ⟨rfl, k σ H st⟩
  | cons _ _ => simp at hl
theorem xps_cons {ts : List Expr} (h : XP X tg (aD X.K d) ρ ρ1) (hr : XPs X ts ds ρ1 ρ2) (hs : (assignEach (tg :: ts) X.env).map (·.2) = assign tg X.env :: (assignEach ts X.env).map (·.2) := by rfl) : XPs X (tg :: ts) (d :: ds) ρ ρ2 := fun E T t σ H vs l hl st Q k => by
  cases vs with
  | nil => simp at hl
  | cons v vs =>
    have hl' : vs.length = ds.length := by simpa using hl
    refine wGs.of (pgs_cons pgS pgsS hs) ⟨v, vs, rfl, h E ((ds.map (aD X.K)).map some ++ T) (vs.map some ++ t) σ H v (by simp [l, hl']) (by simpa using st) _ fun σ' H' st' => ?_⟩
    exact hr E T t σ' H' vs l hl' (by simpa using st') Q k
theorem ST.untup {E : Ent} {K : PySem.W.Frag} {L : Cl} {C : L2.St} {H : Hp} {v : V} (st : ST E (some (aD K (.tuple ds)) :: L) (some v :: C) H) : ∃ a vs, v = .ref a ∧ SqT K H a vs ∧ vs.length = ds.length ∧ ST E ((ds.map (aD K)).map some ++ L) (vs.map some ++ C) H := by
  obtain ⟨G, F, f, c, q⟩ := ST.top st
  cases q with
  | tup h1 h2 => exact ⟨_, _, rfl, f.gh.st h1, h2.len, G, F, f, by simpa using (csD' h2).append c⟩
theorem xp_tup {ts : List Expr} {k : Nat} (hc : X.calm = true) (h : XPs X ts ds ρ ρ1) (hn : (assignEach ts X.env).length = ds.length := by rfl) (hst : (assignEach ts X.env).findIdx? (·.1) = none := by rfl) : XP X (.Tuple ts k pos) (aD X.K (.tuple ds)) ρ ρ1 := fun E T t σ H v l st Q kk => by
  obtain ⟨a, vs, e1, h1, h2, st2⟩ := st.untup
  exact wG.of (pg_tup hc pgsS hn hst) ⟨a, vs, e1, h1, h2, h E T t σ H vs l h2 st2 Q kk⟩
/-- target = e -/
theorem xg_tgt (he : XE X e ρ ρ1 A) (hg : XP X tg A ρ1 ρ2) (h : XG X rest ρ2 m Φ) (hs : swapsWithSole [tg] e pos.line X.env = pure false := by rfl) (hw : swappedStores [tg] e X.env = pure none := by rfl)
    (h1 : (assignEach [tg] X.env).map (·.2) = [assign tg X.env] := by rfl) : XG X (.Assign [tg] e pos :: rest) ρ m Φ := fun o ho E σ H D st q =>
  wS.of (pss_cons (ps_asg peS pgS hs hw h1) pssS) (he E [] [] σ H rfl st _ fun v H' st1 => hg E [] [] σ H' v rfl st1 _ fun σ' H'' st2 => h o ho E σ' H'' D st2 q)

/-! ### loops -/
def foldB {α : Type} (f : β → α → Option (γ ⊕ β)) : List α → β → Option (γ ⊕ β)
  | [], s => some (.inr s)
  | x :: xs, s => thenR (f s x) (foldB f xs) Sum.inl
/-- the words of a loop over things xs -/
theorem forS {g : TG} {xs : List α} {f : β → α → Option β} {s0 : β} {In : α → β → Cl} {D : Ends} {E : Ent} {σ : L2.St} {H : Hp} {s1 : β}
    (J : It) (hs : xs.foldlM f s0 = some s1) (st : ST E (N s0) σ H) (hk : ∀ σ' H', ST E (N s1) σ' H' → D.nx σ' H')
    (go : ∀ n s σ' H', n < xs.length → ST E (N s) σ' H' → J.go n H') (stop : ∀ s σ' H', ST E (N s) σ' H' → J.stop xs.length H')
    (yld : ∀ n x s σ' H' v H2, xs[n]? = some x → ST E (N s) σ' H' → J.yld n H' v H2 → ∀ P : L2.St → Hp → Prop, (∀ σ2 H3, ST E (In x s) σ2 H3 → P σ2 H3) → g v σ' H2 P)
    (hb : ∀ x s, XG X body (In x s) (f s x) (oS N)) :
    ∃ W : Nat → Nat → L2.St → Hp → Prop, (∃ m, W 0 m σ H) ∧ ∀ i m σ H, W i m σ H →
      (J.stop i H ∧ D.nx σ H) ∨ (J.go i H ∧ ∃ Nx : L2.St → Hp → Prop, (∀ σ' H', Nx σ' H' → ∃ m', m' < m ∧ W (i + 1) m' σ' H') ∧ ∀ x H', J.yld i H x H' → g x σ H' fun σ2 H2 => wS X body { D with nx := Nx, ct := Nx, bk := D.nx } σ2 H2) := by
  refine ⟨fun n m σ H => m = xs.length - n ∧ n ≤ xs.length ∧ ∃ s, (xs.drop n).foldlM f s = some s1 ∧ ST E (N s) σ H, ⟨xs.length, by simp, Nat.zero_le _, s0, by simpa using hs, st⟩, ?_⟩
  rintro n m σ H ⟨rfl, hn, s, hf, st⟩
  by_cases hlt : n < xs.length
  · have ed : xs.drop n = xs[n] :: xs.drop (n + 1) := List.drop_eq_getElem_cons hlt
    rw [ed, List.foldlM_cons] at hf
    cases hfx : f s xs[n] with
    | none => rw [hfx] at hf; cases hf
    | some s2 =>
      rw [hfx] at hf
      refine .inr ⟨go n s σ H hlt st, fun σ' H' => ST E (N s2) σ' H', fun σ' H' st' => ⟨xs.length - (n + 1), by omega, rfl, hlt, s2, hf, st'⟩, fun v H' y => ?_⟩
      refine yld n xs[n] s σ H v H' (List.getElem?_eq_getElem hlt) st y _ fun σ2 H2 p => ?_
      exact hb xs[n] s s2 hfx E σ2 H2 _ p fun σ' H' st' => st'
  · have e : n = xs.length := by omega
    subst e
    rw [List.drop_length] at hf
    cases hf
    exact .inl ⟨stop _ σ H st, hk σ H st⟩
theorem forB {g : TG} {xs : List α} {f : β → α → Option (γ ⊕ β)} {s0 : β} {In : α → β → Cl} {D : Ends} {E : Ent} {σ : L2.St} {H : Hp} {o1 : γ ⊕ β}
    (J : It) (hs : foldB f xs s0 = some o1) (st : ST E (N s0) σ H) (hk : ∀ s1, o1 = .inr s1 → ∀ σ' H', ST E (N s1) σ' H' → D.nx σ' H') (hr : ∀ r, o1 = .inl r → oR R r E D)
    (go : ∀ n s σ' H', n < xs.length → ST E (N s) σ' H' → J.go n H') (stop : ∀ s σ' H', ST E (N s) σ' H' → J.stop xs.length H')
    (yld : ∀ n x s σ' H' v H2, xs[n]? = some x → ST E (N s) σ' H' → J.yld n H' v H2 → ∀ P : L2.St → Hp → Prop, (∀ σ2 H3, ST E (In x s) σ2 H3 → P σ2 H3) → g v σ' H2 P)
    (hb : ∀ x s, XG X body (In x s) (f s x) (oB R N)) :
    ∃ W : Nat → Nat → L2.St → Hp → Prop, (∃ m, W 0 m σ H) ∧ ∀ i m σ H, W i m σ H →
      (J.stop i H ∧ D.nx σ H) ∨ (J.go i H ∧ ∃ Nx : L2.St → Hp → Prop, (∀ σ' H', Nx σ' H' → ∃ m', m' < m ∧ W (i + 1) m' σ' H') ∧ ∀ x H', J.yld i H x H' → g x σ H' fun σ2 H2 => wS X body { D with nx := Nx, ct := Nx, bk := D.nx } σ2 H2) := by
  refine ⟨fun n m σ H => m = xs.length - n ∧ n ≤ xs.length ∧ ∃ s, foldB f (xs.drop n) s = some o1 ∧ ST E (N s) σ H, ⟨xs.length, by simp, Nat.zero_le _, s0, by simpa using hs, st⟩, ?_⟩
  rintro n m σ H ⟨rfl, hn, s, hf, st⟩
  by_cases hlt : n < xs.length
  · have ed : xs.drop n = xs[n] :: xs.drop (n + 1) := List.drop_eq_getElem_cons hlt
    rw [ed] at hf
    have hf : thenR (f s xs[n]) (foldB f (xs.drop (n + 1))) Sum.inl = some o1 := hf
    unfold thenR at hf
    cases hfx : f s xs[n] with
    | none => rw [hfx] at hf; cases hf
    | some o2 =>
      rw [hfx] at hf
      cases o2 with
      | inr s2 =>
        have hf : foldB f (xs.drop (n + 1)) s2 = some o1 := hf
        refine .inr ⟨go n s σ H hlt st, fun σ' H' => ST E (N s2) σ' H', fun σ' H' st' => ⟨xs.length - (n + 1), by omega, rfl, hlt, s2, hf, st'⟩, fun v H' y => ?_⟩
        refine yld n xs[n] s σ H v H' (List.getElem?_eq_getElem hlt) st y _ fun σ2 H2 p => ?_
        exact hb xs[n] s _ hfx E σ2 H2 _ p fun σ' H' st' => st'
      | inl r =>
        have hf : some (Sum.inl r) = some o1 := hf
        cases hf
        refine .inr ⟨go n s σ H hlt st, fun σ' H' => False, fun σ' H' st' => st'.elim, fun v H' y => ?_⟩
        refine yld n xs[n] s σ H v H' (List.getElem?_eq_getElem hlt) st y _ fun σ2 H2 p => ?_
        exact hb xs[n] s _ hfx E σ2 H2 _ p (hr r rfl)
  · have e : n = xs.length := by omega
    subst e
    rw [List.drop_length] at hf
    have hf : some (Sum.inr s) = some o1 := hf
    cases hf
    exact .inl ⟨stop s σ H st, hk s rfl σ H st⟩

end
end Mr

set_option Elab.async false
set_option linter.all false
set_option maxRecDepth 100000
namespace Mr
open PySem PySem.Spec PyProof.Rows L2

/-! ### a later entry -/
def Later (E' E : Ent) : Prop := ∀ L C H, ST E' L C H → ST E L C H
theorem Later.refl (E : Ent) : Later E E := fun _ _ _ h => h
theorem Later.of {E : Ent} {G H : Hp} {F : List Addr} (f : Frm E G H F) : Later ⟨G, H, F⟩ E := fun L C H' ⟨G', F', f', c⟩ => by
  obtain ⟨f1, _⟩ := f.step (Fa := F) (Fr := []) (by simp) f'
  exact ⟨G', F', by simpa using f1, c⟩
def rangeI (lo : Int) (n : Nat) : List Int := (List.range n).map fun i : Nat => lo + (i : Int)
theorem rangeI_len (lo : Int) (n : Nat) : (rangeI lo n).length = n := by unfold rangeI; rw [List.length_map, List.length_range]
theorem rangeI_get {lo : Int} {n i : Nat} {x : Int} (h : (rangeI lo n)[i]? = some x) : x = lo + (i : Int) ∧ i < n := by
  have hl := lt_of_get h
  rw [rangeI_len] at hl
  unfold rangeI at h
  rw [List.getElem?_map, List.getElem?_range hl] at h
  cases h
  exact ⟨rfl, hl⟩

/-! ### what is walked -/
def wI (X : Cx) (tg iter : Expr) : TI := fun σ H R => ∀ pins s, Inv X pins σ H s → wpAny (model X.prog X.w) X.A (eval iter X.env) (fun v s1 => wpAny (model X.prog X.w) X.A (pyIter v) (PIE X pins σ tg R) X.xe s1) X.xe s
theorem piS {X : Cx} {tg iter : Expr} : PI X tg iter (wI X tg iter) := ⟨fun pins s _ _ _ I h => h pins s I⟩
theorem wI.of {X : Cx} {tg iter : Expr} {w : TI} (h : PI X tg iter w) {σ : L2.St} {H : Hp} {R : It → Hp → Prop} (q : w σ H R) : wI X tg iter σ H R := fun pins s I => h.run pins s σ H R I q
structure Gives {α : Type} (J : It) (E : Ent) (Ok : Cl → Prop) (xs : List α) (cv : α → OA) : Prop where
  go : ∀ n, n < xs.length → ∀ T t L C H, T.length = t.length → Ok L → ST E (T ++ L) (t ++ C) H → J.go n H
  stop : ∀ T t L C H, T.length = t.length → Ok L → ST E (T ++ L) (t ++ C) H → J.stop xs.length H
  yld : ∀ n x v H H', xs[n]? = some x → ∀ T t L C, T.length = t.length → Ok L → ST E (T ++ L) (t ++ C) H → J.yld n H v H' → ST E (some (cv x) :: (T ++ L)) (some v :: (t ++ C)) H'
/-- xs: what is walked, cv: what holds of an item -/
def XI (X : Cx) {α : Type} (tg iter : Expr) (ρ ρ1 : Cl) (Ok : Cl → Prop) (xs : List α) (cv : α → OA) : Prop := ∀ (E : Ent) (T : Cl) (t σ : L2.St) (H : Hp), T.length = t.length → ST E (T ++ ρ) (t ++ σ) H →
  ∀ R : It → Hp → Prop, (∀ J E' H', Later E' E → ST E' (T ++ ρ1) (t ++ σ) H' → Gives J E' Ok xs cv → R J H') → wI X tg iter σ H R
abbrev okAll : Cl → Prop := fun _ => True
section
variable {X : Cx} {ρ ρ1 ρ2 ρ3 : Cl} {a b c e tg iter : Expr} {pos p2 p : Pos} {A B : OA} {d d1 d2 : PyData} {ds es : List PyData} {α β γ ω : Type}
theorem itr_gives {E : Ent} (lo : Int) (n : Nat) : Gives (Itr lo n) E okAll (rangeI lo n) (fun x => aD X.K (.int x)) where
  go := fun i hi _ _ _ _ _ _ _ _ => by rw [rangeI_len] at hi; exact hi
  stop := fun _ _ _ _ _ _ _ _ => by rw [rangeI_len]; exact Nat.le_refl _
  yld := fun i x v H H' hx T t L C l _ st y => by
    obtain ⟨e1, e2⟩ := y
    obtain ⟨e3, _⟩ := rangeI_get hx
    subst e1 e2 e3
    obtain ⟨G, F, f, c⟩ := st
    exact ST.put f c (.int _)
theorem xi_range1 {n : Int} (hg : Gl X "range") (hm : X.mg "range" = none) (ha : XE X a ρ ρ1 (aD X.K (.int n))) (hn : -(2 ^ 62) ≤ n ∧ n < 2 ^ 62) (hs : starEach [a] X.env = [(false, eval a X.env)] := by rfl) :
    XI X tg (.Call (.Name "range" p) [a] [] pos) ρ ρ1 okAll (rangeI 0 n.toNat) (fun x => aD X.K (.int x)) := fun E T t σ H l st R k =>
  wI.of (pi_range1 hg hm (pa_cons peS pa_nil hs) hs) (ha E T t σ H l st _ fun v H1 st1 => by
    obtain ⟨G, F, f, cs, q⟩ := ST.top st1
    cases q
    exact ⟨n, rfl, hn.1, hn.2, k _ E _ (.refl _) ⟨G, F, f, cs⟩ (itr_gives 0 n.toNat)⟩)
theorem xi_range2 {n m : Int} (hg : Gl X "range") (hm : X.mg "range" = none) (ha : XE X a ρ ρ1 (aD X.K (.int n))) (hb : XE X b ρ1 ρ2 (aD X.K (.int m))) (hn : (-(2 ^ 62) ≤ n ∧ n < 2 ^ 62) ∧ (-(2 ^ 62) ≤ m ∧ m < 2 ^ 62))
    (hs : starEach [a, b] X.env = [(false, eval a X.env), (false, eval b X.env)] := by rfl) (hs2 : starEach [b] X.env = [(false, eval b X.env)] := by rfl) :
    XI X tg (.Call (.Name "range" p) [a, b] [] pos) ρ ρ2 okAll (rangeI n (m - n).toNat) (fun x => aD X.K (.int x)) := fun E T t σ H l st R k =>
  wI.of (pi_range2 hg hm (pa_cons peS (pa_cons peS pa_nil hs2) (by rw [hs, hs2])) hs hs2) (ha E T t σ H l st _ fun v H1 st1 => hb E (_ :: T) (_ :: t) σ H1 (by simp [l]) st1 _ fun w H2 st2 => by
    obtain ⟨G, F, f, cs, q1, q2⟩ := ST.top2 st2
    cases q1
    cases q2
    exact ⟨n, m, rfl, ⟨hn.1.1, hn.1.2, hn.2.1, hn.2.2⟩, k _ E _ (.refl _) ⟨G, F, f, cs⟩ (itr_gives n (m - n).toNat)⟩)
/-- a list of data that stays -/
theorem itl_gives {E : Ent} {p : Addr} {vs : List V} {xs : List α} {cv : α → PyData} (h : SqL X.K E.G p vs) (q : DqAll X.K E.G vs (xs.map cv)) : Gives (Itl X.K p) E okAll xs (fun x => aD X.K (cv x)) where
  go := fun i hi T t L C H l _ st => by
    obtain ⟨G, F, f, c⟩ := st
    have hl : i < vs.length := by rw [q.len, List.length_map]; exact hi
    exact ⟨vs, vs[i], f.gh.sl (f.gg.sl h), List.getElem?_eq_getElem hl⟩
  stop := fun T t L C H l _ st => by
    obtain ⟨G, F, f, c⟩ := st
    exact ⟨vs, f.gh.sl (f.gg.sl h), by rw [q.len, List.length_map]; exact Nat.le_refl _⟩
  yld := fun i x v H H' hx T t L C l _ st y => by
    obtain ⟨G, F, f, c⟩ := st
    obtain ⟨e1, e2⟩ := y
    have e3 := e2 vs (f.gh.sl (f.gg.sl h))
    obtain ⟨w, e4, e5⟩ := q.get (i := i) (d := cv x) (by rw [List.getElem?_map, hx]; rfl)
    rw [e3] at e4
    cases e4
    subst e1
    exact ST.put f c (Dq.mono f.gg _ _ e5)
theorem itt_gives {E : Ent} {p : Addr} {vs : List V} {xs : List α} {cv : α → PyData} (h : SqT X.K E.G p vs) (q : DqAll X.K E.G vs (xs.map cv)) : Gives (Itt X.K p) E okAll xs (fun x => aD X.K (cv x)) where
  go := fun i hi T t L C H l _ st => by
    obtain ⟨G, F, f, c⟩ := st
    have hl : i < vs.length := by rw [q.len, List.length_map]; exact hi
    exact ⟨vs, vs[i], f.gh.st (f.gg.st h), List.getElem?_eq_getElem hl⟩
  stop := fun T t L C H l _ st => by
    obtain ⟨G, F, f, c⟩ := st
    exact ⟨vs, f.gh.st (f.gg.st h), by rw [q.len, List.length_map]; exact Nat.le_refl _⟩
  yld := fun i x v H H' hx T t L C l _ st y => by
    obtain ⟨G, F, f, c⟩ := st
    obtain ⟨e1, e2⟩ := y
    have e3 := e2 vs (f.gh.st (f.gg.st h))
    obtain ⟨w, e4, e5⟩ := q.get (i := i) (d := cv x) (by rw [List.getElem?_map, hx]; rfl)
    rw [e3] at e4
    cases e4
    subst e1
    exact ST.put f c (Dq.mono f.gg _ _ e5)
theorem xi_list {xs : List α} {cv : α → PyData} (h : XE X iter ρ ρ1 (aD X.K (.list (xs.map cv)))) : XI X tg iter ρ ρ1 okAll xs (fun x => aD X.K (cv x)) := fun E T t σ H l st R k =>
  wI.of (pi_list peS) (h E T t σ H l st _ fun v H1 st1 => by
    obtain ⟨G, F, f, cs, q⟩ := ST.top st1
    cases q with
    | lst h1 h2 => exact ⟨_, rfl, ⟨_, .inl (.inl (f.gh _ _ h1))⟩, k _ ⟨G, H1, F⟩ _ (Later.of f) ⟨G, F, f.start, cs⟩ (itl_gives (.inl (.inl h1)) h2)⟩)
theorem xi_scr {xs : List α} {cv : α → PyData} (h : XE X iter ρ ρ1 (aR X.K (xs.map cv))) : XI X tg iter ρ ρ1 okAll xs (fun x => aD X.K (cv x)) := fun E T t σ H l st R k =>
  wI.of (pi_list peS) (h E T t σ H l st _ fun v H1 st1 => by
    obtain ⟨G, F, Fv, f, cs, ⟨a, vs, e1, h1, h2⟩, _⟩ := ST.one st1
    exact ⟨a, e1, ⟨_, f.gh.sl h1⟩, k _ ⟨G, H1, F⟩ _ (Later.of f) ⟨G, F, f.start, cs⟩ (itl_gives h1 h2)⟩)
theorem xi_tup {xs : List α} {cv : α → PyData} (h : XE X iter ρ ρ1 (aD X.K (.tuple (xs.map cv)))) : XI X tg iter ρ ρ1 okAll xs (fun x => aD X.K (cv x)) := fun E T t σ H l st R k =>
  wI.of (pi_tup peS) (h E T t σ H l st _ fun v H1 st1 => by
    obtain ⟨G, F, f, cs, q⟩ := ST.top st1
    cases q with
    | tup h1 h2 => exact ⟨_, rfl, ⟨_, f.gh.st h1⟩, k _ ⟨G, H1, F⟩ _ (Later.of f) ⟨G, F, f.start, cs⟩ (itt_gives h1 h2)⟩)
/-- an owned list of data that stands in the slot i, as it is through all turns -/
theorem xi_own (i : Nat) {v0 : V} {xs : List α} {cv : α → PyData} (h : XE X iter ρ ρ1 (aV v0)) (hi : ρ1[i]? = some (some (pin v0 (aLD X.K (xs.map cv))))) : XI X tg iter ρ ρ1 (fun L => L[i]? = some (some (pin v0 (aLD X.K (xs.map cv))))) xs (fun x => aD X.K (cv x)) := fun E T t σ H l st R k => by
  have rd : ∀ {E : Ent} {T : Cl} {t : L2.St} {L : Cl} {C : L2.St} {H : Hp}, T.length = t.length → L[i]? = some (some (pin v0 (aLD X.K (xs.map cv)))) → ST E (T ++ L) (t ++ C) H → ∃ p vs G F, v0 = .ref p ∧ SqL X.K H p vs ∧ Frm E G H F ∧ Cs G H (T ++ L) (t ++ C) F ∧ DqAll X.K G vs (xs.map cv) := fun {E T t L C H} l hL st => by
    obtain ⟨G, F, f, c⟩ := st
    obtain ⟨p, vs, e1, e2, e3⟩ := rmO (K := X.K) i hL l c f.gh (v := v0) (Fv := []) ⟨rfl, rfl⟩
    exact ⟨p, vs, G, F, e1, .inl (.inl e2), f, c, e3⟩
  refine wI.of (pi_list peS) (h E T t σ H l st _ fun v H1 st1 => ?_)
  obtain ⟨G, F, Fv, f, cs, e0, _⟩ := ST.one st1
  have st2 : ST E (T ++ ρ1) (t ++ σ) H1 := ⟨G, F, f, cs⟩
  obtain ⟨p, vs, G', F', e1, h1, _, _, _⟩ := rd l hi st2
  subst e0 e1
  refine ⟨p, rfl, ⟨_, h1⟩, k _ E _ (.refl _) st2 ⟨fun n hn T t L C H l ok st => ?_, fun T t L C H l ok st => ?_, fun n x v H H' hx T t L C l ok st y => ?_⟩⟩
  · obtain ⟨p', vs', G2, F2, e1, h1, _, _, q⟩ := rd l ok st
    cases e1
    have hl : n < vs'.length := by rw [q.len, List.length_map]; exact hn
    exact ⟨vs', vs'[n], h1, List.getElem?_eq_getElem hl⟩
  · obtain ⟨p', vs', G2, F2, e1, h1, _, _, q⟩ := rd l ok st
    cases e1
    exact ⟨vs', h1, by rw [q.len, List.length_map]; exact Nat.le_refl _⟩
  · obtain ⟨p', vs', G2, F2, e1, h1, f2, c2, q⟩ := rd l ok st
    cases e1
    obtain ⟨e1, e2⟩ := y
    have e3 := e2 vs' h1
    obtain ⟨w, e4, e5⟩ := q.get (i := n) (d := cv x) (by rw [List.getElem?_map, hx]; rfl)
    rw [e3] at e4
    cases e4
    subst e1
    exact ST.put f2 c2 e5

variable {body rest : List Stmt} {m : Option ω} {Φ : ω → Ent → Ends → Prop} {R : γ → Cl} {N : β → Cl}
/-- for, each turn goes on -/
theorem xg_for {Ok : Cl → Prop} {xs : List α} {cv : α → OA} {f : β → α → Option β} {s0 : β} {In : α → β → Cl} {kk : β → Option ω} (hp : PassesOwn (model X.prog X.w) X.A X.env X.xe) (hc : X.calm = true) (hi : XI X tg iter ρ ρ1 Ok xs cv) (hw : Wk ρ1 (N s0)) (hok : ∀ s, Ok (N s))
    (ht : ∀ x s, XP X tg (cv x) (N s) (In x s)) (hb : ∀ x s, XG X body (In x s) (f s x) (oS N)) (h : ∀ s, XG X rest (N s) (kk s) Φ) (hs : ∀ x, foldedSetIterable iter X.env x = pure x := by intro _; rfl) :
    XG X (.For tg iter body [] pos :: rest) ρ ((xs.foldlM f s0).bind kk) Φ :=
  xg_bind fun s1 h1 o ho E σ H D st q => wS.of (pss_cons (ps_for hp hc piS pgS pssS hs) pssS) (hi E [] [] σ H rfl st _ fun J E' H' lt st' gv =>
    forS (N := N) (In := In) (E := E') J h1 (st'.wk hw) (fun σ' H' s2 => h s1 o ho E σ' H' D (lt _ _ _ s2) q)
      (fun n s σ' H' hn st2 => gv.go n hn [] [] _ _ _ rfl (hok s) st2) (fun s σ' H' st2 => gv.stop [] [] _ _ _ rfl (hok s) st2)
      (fun n x s σ' H' v H2 hx st2 y P hP => ht x s E' [] [] σ' H2 v rfl (gv.yld n x v H' H2 hx [] [] _ _ rfl (hok s) st2 y) P hP) hb)
/-- for, a turn may return -/
theorem xg_forR {Ok : Cl → Prop} {xs : List α} {cv : α → OA} {f : β → α → Option (γ ⊕ β)} {s0 : β} {In : α → β → Cl} {kk : β → Option γ} (hp : PassesOwn (model X.prog X.w) X.A X.env X.xe) (hc : X.calm = true) (hi : XI X tg iter ρ ρ1 Ok xs cv) (hw : Wk ρ1 (N s0)) (hok : ∀ s, Ok (N s))
    (ht : ∀ x s, XP X tg (cv x) (N s) (In x s)) (hb : ∀ x s, XG X body (In x s) (f s x) (oB R N)) (h : ∀ s, XG X rest (N s) (kk s) (oR R)) (hs : ∀ x, foldedSetIterable iter X.env x = pure x := by intro _; rfl) :
    XG X (.For tg iter body [] pos :: rest) ρ (thenR (foldB f xs s0) kk id) (oR R) :=
  xg_bind fun s1 h1 o ho E σ H D st q => wS.of (pss_cons (ps_for hp hc piS pgS pssS hs) pssS) (hi E [] [] σ H rfl st _ fun J E' H' lt st' gv =>
    forB (N := N) (In := In) (E := E') (R := R) J h1 (st'.wk hw) (fun s e σ' H' s2 => by
        subst e
        exact h s o ho E σ' H' D (lt _ _ _ s2) q)
      (fun r e => by
        subst e
        cases ho
        exact fun v σ' H' s2 => q v σ' H' (lt _ _ _ s2))
      (fun n s σ' H' hn st2 => gv.go n hn [] [] _ _ _ rfl (hok s) st2) (fun s σ' H' st2 => gv.stop [] [] _ _ _ rfl (hok s) st2)
      (fun n x s σ' H' v H2 hx st2 y P hP => ht x s E' [] [] σ' H2 v rfl (gv.yld n x v H' H2 hx [] [] _ _ rfl (hok s) st2 y) P hP) hb)
theorem xg_forRB {β' : Type} {N' : β' → Cl} {Ok : Cl → Prop} {xs : List α} {cv : α → OA} {f : β → α → Option (γ ⊕ β)} {s0 : β} {In : α → β → Cl} {kk : β → Option (γ ⊕ β')} (hp : PassesOwn (model X.prog X.w) X.A X.env X.xe) (hc : X.calm = true) (hi : XI X tg iter ρ ρ1 Ok xs cv) (hw : Wk ρ1 (N s0)) (hok : ∀ s, Ok (N s))
    (ht : ∀ x s, XP X tg (cv x) (N s) (In x s)) (hb : ∀ x s, XG X body (In x s) (f s x) (oB R N)) (h : ∀ s, XG X rest (N s) (kk s) (oB R N')) (hs : ∀ x, foldedSetIterable iter X.env x = pure x := by intro _; rfl) :
    XG X (.For tg iter body [] pos :: rest) ρ (thenR (foldB f xs s0) kk Sum.inl) (oB R N') :=
  xg_bind fun s1 h1 o ho E σ H D st q => wS.of (pss_cons (ps_for hp hc piS pgS pssS hs) pssS) (hi E [] [] σ H rfl st _ fun J E' H' lt st' gv =>
    forB (N := N) (In := In) (E := E') (R := R) J h1 (st'.wk hw) (fun s e σ' H' s2 => by
        subst e
        exact h s o ho E σ' H' D (lt _ _ _ s2) q)
      (fun r e => by
        subst e
        cases ho
        exact fun v σ' H' s2 => q v σ' H' (lt _ _ _ s2))
      (fun n s σ' H' hn st2 => gv.go n hn [] [] _ _ _ rfl (hok s) st2) (fun s σ' H' st2 => gv.stop [] [] _ _ _ rfl (hok s) st2)
      (fun n x s σ' H' v H2 hx st2 y P hP => ht x s E' [] [] σ' H2 v rfl (gv.yld n x v H' H2 hx [] [] _ _ rfl (hok s) st2 y) P hP) hb)
/-- while -/
def whileO (c : β → Option Bool) (f : β → Option β) : Nat → β → Option β
  | 0, _ => none
  | n + 1, s => (c s).bind fun b => if b = true then (f s).bind (whileO c f n) else some s
theorem xg_while {cb : β → Option Bool} {f : β → Option β} {fuel : Nat} {s0 : β} {kk : β → Option ω} {N1 : β → Cl} (hp : PassesOwn (model X.prog X.w) X.A X.env X.xe) (hw : Wk ρ (N s0)) (hc : ∀ s k, cb s = some k → XT X c (N s) (N1 s) k) (hb : ∀ s, XG X body (N1 s) (f s) (oS N)) (h : ∀ s, XG X rest (N1 s) (kk s) Φ) :
    XG X (.While c body [] pos :: rest) ρ ((whileO cb f fuel s0).bind kk) Φ :=
  xg_bind fun s1 h1 o ho E σ H D st q => wS.of (pss_cons (ps_while hp ptS pssS) pssS) (by
    refine ⟨fun n σ H => ∃ s, whileO cb f n s = some s1 ∧ ST E (N s) σ H, ⟨fuel, s0, h1, st.wk hw⟩, ?_⟩
    rintro n σ H ⟨s, hs, st⟩
    cases n with
    | zero => cases hs
    | succ n =>
      have hs : ((cb s).bind fun b => if b = true then (f s).bind (whileO cb f n) else some s) = some s1 := hs
      cases hk : cb s with
      | none => rw [hk] at hs; cases hs
      | some k =>
        rw [hk] at hs
        refine hc s k hk E [] [] σ H rfl st _ fun H1 st1 => ?_
        cases k with
        | false =>
          have hs : some s = some s1 := hs
          cases hs
          exact h _ o ho E σ H1 D st1 q
        | true =>
          have hs : (f s).bind (whileO cb f n) = some s1 := hs
          cases hf : f s with
          | none => rw [hf] at hs; cases hs
          | some s2 =>
            rw [hf] at hs
            exact ⟨fun σ' H' => ST E (N s2) σ' H', fun σ' H' st2 => ⟨n, Nat.lt_succ_self _, s2, hs, st2⟩, hb s s2 hf E σ H1 _ st1 fun σ' H' st2 => st2⟩)
end
end Mr

set_option Elab.async false
set_option linter.all false
set_option maxRecDepth 100000
namespace Mr
open PySem PySem.Spec PyProof.Rows L2

/-! ### a def's promise by its mirror m: pre: the arguments' words; post: what holds of them behind (none: nothing is said); ret: the answer's word -/
def SpM {δ γ : Type} (pre : δ → List OA) (m : δ → Option γ) (post : δ → γ → Cl) (ret : δ → γ → OA) : Sp := fun vs H Q _ => ∃ (x : δ) (r : γ) (G : Hp) (F : List Addr), m x = some r ∧ Frm ⟨G, H, F⟩ G H F ∧ Cs G H ((pre x).map some) (vs.map some) F ∧ vs.length = (pre x).length ∧
  ∀ v H', ST ⟨G, H, F⟩ (some (ret x r) :: post x r) (some v :: vs.map some) H' → Q v H'
def pinF : List Bool → List OA → List V → Cl
  | true :: fs, A :: As, v :: vs => some (pin v A) :: pinF fs As vs
  | false :: fs, A :: As, _ :: vs => some A :: pinF fs As vs
  | _, _, _ => []
def pinP : Cl → List V → Cl
  | some A :: As, v :: vs => some (pin v A) :: pinP As vs
  | none :: As, _ :: vs => none :: pinP As vs
  | _, _ => []
theorem Cs.nones {G H : Hp} : ∀ n : Nat, Cs G H (List.replicate n none) (List.replicate n none) []
  | 0 => rfl
  | n + 1 => Cs.nones n
theorem Cs.pinF {G H : Hp} : ∀ {fs : List Bool} {As : List OA} {vs : List V} {F : List Addr}, fs.length = As.length → Cs G H (As.map some) (vs.map some) F → Cs G H (Mr.pinF fs As vs) (vs.map some) F
  | [], [], [], _, _, c => c
  | [], [], _ :: _, _, _, c => c.elim
  | [], _ :: _, _, _, l, _ => by simp at l
  | _ :: _, [], _, _, l, _ => by simp at l
  | _ :: _, _ :: _, [], _, _, c => c.elim
  | true :: fs, A :: As, v :: vs, F, l, c => by
    obtain ⟨w, F1, F2, e1, e2, a, c⟩ := c
    cases e1
    exact ⟨v, F1, F2, rfl, e2, ⟨rfl, a⟩, c.pinF (by simpa using l)⟩
  | false :: fs, A :: As, v :: vs, F, l, c => by
    obtain ⟨w, F1, F2, e1, e2, a, c⟩ := c
    cases e1
    exact ⟨v, F1, F2, rfl, e2, a, c.pinF (by simpa using l)⟩
theorem Cs.noneF {G H : Hp} : ∀ {n : Nat} {σ : L2.St} {F : List Addr}, Cs G H (List.replicate n none) σ F → F = []
  | 0, [], _, c => c
  | 0, _ :: _, _, c => c.elim
  | n + 1, [], _, c => c.elim
  | n + 1, _ :: σ, F, c => Cs.noneF (n := n) (σ := σ) c
theorem Cs.pinP {G H : Hp} {n : Nat} : ∀ {P : Cl} {vs : List V} {σ : L2.St} {F : List Addr}, P.length = vs.length → Cs G H (Mr.pinP P vs ++ List.replicate n none) σ F → Cs G H P (vs.map some) F
  | [], [], σ, F, _, c => Cs.noneF c
  | [], _ :: _, _, _, l, _ => by simp at l
  | _ :: _, [], _, _, l, _ => by simp at l
  | none :: P, _ :: vs, [], _, l, c => c.elim
  | some A :: P, _ :: vs, [], _, l, c => c.elim
  | none :: P, v :: vs, y :: σ, F, l, c => Cs.pinP (P := P) (vs := vs) (σ := σ) (by simpa using l) c
  | some A :: P, v :: vs, y :: σ, F, l, c => by
    obtain ⟨w, F1, F2, e1, e2, ⟨e3, a⟩, c⟩ := c
    subst e3
    exact ⟨w, F1, F2, rfl, e2, a, Cs.pinP (by simpa using l) c⟩
section
variable {P : Program} {w : World} {K : PySem.W.Frag} {mg : Str → Option Value} {base : Heap} {δ γ : Type} {pre : δ → List OA} {m : δ → Option γ} {post : δ → γ → Cl} {ret : δ → γ → OA}
theorem start_cs {G H : Hp} {fs : List Bool} {As : List OA} {vs : List V} {F : List Addr} {N : List Str} (l : fs.length = As.length) (c : Cs G H (As.map some) (vs.map some) F) : Cs G H (pinF fs As vs ++ List.replicate (N.length - vs.length) none) (L2.start N vs) F := by
  have q := (c.pinF l).append (Cs.nones (G := G) (H := H) (N.length - vs.length))
  simpa [L2.start] using q
/-- THE RULE for a def that returns (nothing is raised) -/
theorem fn_ok {x qual : Str} {st : Stmt} {f : Addr} {fd : FuncData} {N ps : List Str} {k : Nat} (fs : List Bool) (F : Fun K x qual st f fd) (S : FnScope N ps (defScope st)) (hf : fs.length = ps.length) (hp : ∀ x, (pre x).length = ps.length) (hq : ∀ x r, (post x r).length = ps.length)
    (hb : ∀ (x : δ) (vs : List V) (cdv : Value) (A : Around) (outer : List Env) (s : Shared) (H : Hp) (E : XK), vs.length = ps.length → Room k (A.deeper (envOfC qual (defScope st) s.heap.objs.size f cdv)) →
      XG (cxOf CX0 P w K mg base N qual (defScope st) f cdv A outer s H E).nox (defBody st) (pinF fs (pre x) vs ++ List.replicate (N.length - vs.length) none) (m x) (oR fun r => some (ret x r) :: (pinP (post x r) vs ++ List.replicate (N.length - vs.length) none))) :
    FnOk P w K mg base CX0 (k + 1) f fd ps (SpM pre m post ret) := by
  refine F.ok S (fun vs H Q E h => ?_) (fun cdv A outer s H vs Q E hr h => ?_)
  · obtain ⟨x, r, G, F, _, _, c, hl, _⟩ := h
    exact hl.trans (hp x)
  · obtain ⟨x, r, G, F, hm, f, c, hl, q⟩ := h
    have hv : vs.length = ps.length := hl.trans (hp x)
    refine ⟨_, pssS, hb x vs cdv A outer s H E hv hr r hm ⟨G, H, F⟩ (L2.start N vs) H _ ⟨G, F, f, start_cs (hf.trans (hp x).symm) c⟩ fun v σ' H' st => q v H' ?_⟩
    obtain ⟨G', F', f', v', F1, F2, e1, e2, a, c'⟩ := st
    exact ⟨G', F', f', v', F1, F2, e1, e2, a, c'.pinP ((hq x r).trans hv.symm)⟩
/-- a def that falls off its end: None -/
theorem fn_okN {x qual : Str} {st : Stmt} {f : Addr} {fd : FuncData} {N ps : List Str} {k : Nat} (fs : List Bool) (F : Fun K x qual st f fd) (S : FnScope N ps (defScope st)) (hf : fs.length = ps.length) (hp : ∀ x, (pre x).length = ps.length) (hq : ∀ x r, (post x r).length = ps.length)
    (hb : ∀ (x : δ) (vs : List V) (cdv : Value) (A : Around) (outer : List Env) (s : Shared) (H : Hp) (E : XK), vs.length = ps.length → Room k (A.deeper (envOfC qual (defScope st) s.heap.objs.size f cdv)) →
      XG (cxOf CX0 P w K mg base N qual (defScope st) f cdv A outer s H E).nox (defBody st) (pinF fs (pre x) vs ++ List.replicate (N.length - vs.length) none) (m x) (oS fun r => (pinP (post x r) vs ++ List.replicate (N.length - vs.length) none))) :
    FnOk P w K mg base CX0 (k + 1) f fd ps (SpM pre m post fun _ _ => aD K .none) := by
  refine F.ok S (fun vs H Q E h => ?_) (fun cdv A outer s H vs Q E hr h => ?_)
  · obtain ⟨x, r, G, F, _, _, c, hl, _⟩ := h
    exact hl.trans (hp x)
  · obtain ⟨x, r, G, F, hm, f, c, hl, q⟩ := h
    have hv : vs.length = ps.length := hl.trans (hp x)
    refine ⟨_, pssS, hb x vs cdv A outer s H E hv hr r hm ⟨G, H, F⟩ (L2.start N vs) H _ ⟨G, F, f, start_cs (hf.trans (hp x).symm) c⟩ fun σ' H' st => q .non H' ?_⟩
    obtain ⟨G', F', f', c'⟩ := st
    exact ST.put f' (c'.pinP ((hq x r).trans hv.symm)) .non
/-- .. that returns early, or falls off its end: None both times -/
theorem fn_okB {x qual : Str} {st : Stmt} {f : Addr} {fd : FuncData} {N ps : List Str} {k : Nat} {m : δ → Option (γ ⊕ γ)} (fs : List Bool) (F : Fun K x qual st f fd) (S : FnScope N ps (defScope st)) (hf : fs.length = ps.length) (hp : ∀ x, (pre x).length = ps.length) (hq : ∀ x r, (post x r).length = ps.length)
    (hb : ∀ (x : δ) (vs : List V) (cdv : Value) (A : Around) (outer : List Env) (s : Shared) (H : Hp) (E : XK), vs.length = ps.length → Room k (A.deeper (envOfC qual (defScope st) s.heap.objs.size f cdv)) →
      XG (cxOf CX0 P w K mg base N qual (defScope st) f cdv A outer s H E).nox (defBody st) (pinF fs (pre x) vs ++ List.replicate (N.length - vs.length) none) (m x) (oB (fun r => some (aD K .none) :: (pinP (post x r) vs ++ List.replicate (N.length - vs.length) none)) fun r => (pinP (post x r) vs ++ List.replicate (N.length - vs.length) none))) :
    FnOk P w K mg base CX0 (k + 1) f fd ps (SpM pre (fun x => (m x).map (Sum.elim id id)) post fun _ _ => aD K .none) := by
  refine F.ok S (fun vs H Q E h => ?_) (fun cdv A outer s H vs Q E hr h => ?_)
  · obtain ⟨x, r, G, F, _, _, c, hl, _⟩ := h
    exact hl.trans (hp x)
  · obtain ⟨x, r, G, F, hm, f, c, hl, q⟩ := h
    have hv : vs.length = ps.length := hl.trans (hp x)
    have hm : (m x).map (Sum.elim id id) = some r := hm
    cases hm2 : m x with
    | none => rw [hm2] at hm; cases hm
    | some o =>
      rw [hm2] at hm
      refine ⟨_, pssS, hb x vs cdv A outer s H E hv hr o hm2 ⟨G, H, F⟩ (L2.start N vs) H _ ⟨G, F, f, start_cs (hf.trans (hp x).symm) c⟩ ?_⟩
      cases o with
      | inl r' =>
        cases hm
        intro v σ' H' st
        refine q v H' ?_
        obtain ⟨G', F', f', v', F1, F2, e1, e2, a, c'⟩ := st
        exact ⟨G', F', f', v', F1, F2, e1, e2, a, c'.pinP ((hq x _).trans hv.symm)⟩
      | inr r' =>
        cases hm
        intro σ' H' st
        refine q .non H' ?_
        obtain ⟨G', F', f', c'⟩ := st
        exact ST.put f' (c'.pinP ((hq x _).trans hv.symm)) .non
end

/-! ### calls of the text's own defs -/
/-- what stands at a module's name: a def that keeps its promise -/
structure Cal (P : Program) (w : World) (K : PySem.W.Frag) (mg : Str → Option Value) (base : Heap) (k : Nat) (x : Str) (sp : Sp) : Prop where
  ex : ∃ (f : Addr) (fd : FuncData) (ps : List Str), FnOk P w K mg base CX0 k f fd ps sp ∧ mg x = some (.ref f) ∧ PySem.W.keepIn K (.ref f) = true ∧ Binds K fd ps []
/-- arguments, some of which are lent from slots: (its place, the slot, its value) -/
def XL (X : Cx) (es : List Expr) (ρ ρ' : Cl) (As : List OA) (ls : List (Nat × Nat × V)) : Prop := ∀ (E : Ent) (T : Cl) (t σ : L2.St) (H : Hp), T.length = t.length → ST E (T ++ ρ) (t ++ σ) H →
  ∀ Q : List V → Hp → Prop, (∀ vs H', vs.length = As.length → (∀ p ∈ ls, vs[p.1]? = some p.2.2 ∧ σ[p.2.1]? = some (some p.2.2)) → ST E (As.map some ++ (T ++ ρ')) (vs.map some ++ (t ++ σ)) H' → Q vs H') → wA X es σ H Q
/-- what is lent comes back -/
def backs (P : Cl) : List (Nat × Nat × V) → Cl → Cl
  | [], ρ => ρ
  | (j, i, v) :: ls, ρ => match P[j]? with
    | some (some A) => (backs P ls ρ).set i (some (pin v A))
    | _ => backs P ls ρ
section
variable {X : Cx} {ρ ρ1 ρ2 ρ3 : Cl} {a b c e : Expr} {es : List Expr} {pos p : Pos} {A B : OA} {As : List OA} {ls : List (Nat × Nat × V)} {δ γ : Type} {pre : δ → List OA} {m : δ → Option γ} {post : δ → γ → Cl} {ret : δ → γ → OA}
theorem xl_of (h : XA X es ρ ρ1 As) : XL X es ρ ρ1 As [] := fun E T t σ H l st Q k => h E T t σ H l st Q fun vs H' hl st' => k vs H' hl (fun _ hp => by simp at hp) st'
theorem xl_lend (j i : Nat) {v0 : V} (h : XL X es ρ ρ1 As ls) (hj : As[j]? = some (aV v0)) (hi : ρ1[i]? = some (some (pin v0 A))) : XL X es ρ (ρ1.set i none) (As.set j A) ((j, i, v0) :: ls) := fun E T t σ H l st Q k => h E T t σ H l st Q fun vs H' hl hls st' => by
  obtain ⟨G, F, f, c⟩ := st'
  have lj : j < As.length := lt_of_get hj
  -- the value
  obtain ⟨v, F1, F2, e1, e2, ⟨e3, e4⟩, c1⟩ := c.split (i := j) (A := aV v0) (by rw [List.getElem?_append_left (by simpa using lj), List.getElem?_map, hj]; rfl)
  subst e3 e4
  have hv : vs[j]? = some v := by
    rw [List.getElem?_append_left (by simp [hl, lj]), List.getElem?_map] at e1
    cases q : vs[j]? with
    | none => rw [q] at e1; cases e1
    | some u => rw [q] at e1; cases e1; rfl
  rw [List.set_append_left _ _ (by simpa using lj)] at c1
  -- the slot
  have c2 : Cs G H' (((As.map some).set j none ++ T) ++ ρ1) ((vs.map some ++ t) ++ σ) F2 := by simpa using c1
  obtain ⟨u, F3, F4, e5, e6, ⟨e7, q⟩, c3⟩ := c2.slot (by simp [l, hl]) hi
  subst e7
  have c4 : Cs G H' ((As.map some ++ (T ++ ρ1.set i none)).set j none) (vs.map some ++ (t ++ σ)) F4 := by
    rw [List.set_append_left _ _ (by simpa using lj)]
    simpa using c3
  obtain ⟨F5, e8, c5⟩ := c4.join (by simp; omega) q
  have e9 : (vs.map some ++ (t ++ σ)).set j (some u) = vs.map some ++ (t ++ σ) := set_get (by rw [List.getElem?_append_left (by simp [hl, lj]), List.getElem?_map, hv]; rfl)
  rw [List.set_append_left _ _ (by simpa using lj), e9] at c5
  refine k vs H' (by simp [hl]) (fun p hp => ?_) ⟨G, F5, f.perm ?_, by simpa [List.map_set] using c5⟩
  · rcases List.mem_cons.mp hp with hp | hp
    · subst hp; exact ⟨hv, e5⟩
    · exact hls p hp
  · exact (e2.trans (by simpa using e6)).trans e8.symm
theorem Frm.sub {E : Ent} {G H : Hp} {F F1 : List Addr} (h : Frm E G H F) (n : F1.Nodup) (p : ∀ b ∈ F1, b ∈ F) : Frm E G H F1 :=
  ⟨h.gg, h.gh, n, fun b hb => h.dis b (p b hb), fun b hb => h.live b (p b hb), h.keep, fun b hb => h.fp b (p b hb), h.gn⟩
/-- the lent things go back, from the arguments' cells -/
theorem cs_backs {G H : Hp} {T : Cl} {t σ : L2.St} {vs : List V} (l : T.length = t.length) : ∀ (ls : List (Nat × Nat × V)) (P ρ : Cl) (F : List Addr), P.length = vs.length → (ls.map (·.1)).Nodup → (∀ p ∈ ls, vs[p.1]? = some p.2.2 ∧ σ[p.2.1]? = some (some p.2.2) ∧ ρ[p.2.1]? = some none) → (ls.map (·.2.1)).Nodup →
    Cs G H (P ++ (T ++ ρ)) (vs.map some ++ (t ++ σ)) F → F.Nodup → ∃ F1, F1.Nodup ∧ (∀ b ∈ F1, b ∈ F) ∧ Cs G H (T ++ backs P ls ρ) (t ++ σ) F1
  | [], P, ρ, F, hl, _, _, _, c, nF => by
    obtain ⟨F1, F2, e1, c1, c2⟩ := c.unappend (by simp [hl])
    subst e1
    exact ⟨F2, (List.nodup_append.mp nF).2.1, fun b hb => List.mem_append_right _ hb, c2⟩
  | (j, i, v) :: ls, P, ρ, F, hl, nd, hp, nd2, c, nF => by
    obtain ⟨h1, h2, h4⟩ := hp (j, i, v) (by simp)
    have nd1 := (List.nodup_cons.mp nd)
    have nd3 := (List.nodup_cons.mp nd2)
    have hp1 : ∀ p ∈ ls, vs[p.1]? = some p.2.2 ∧ σ[p.2.1]? = some (some p.2.2) ∧ ρ[p.2.1]? = some none := fun p h => hp p (List.mem_cons_of_mem _ h)
    have lj : j < P.length := by rw [hl]; exact lt_of_get h1
    cases hP : P[j]? with
    | none => rw [List.getElem?_eq_none_iff] at hP; omega
    | some o =>
      cases o with
      | none =>
        obtain ⟨F1, a, b, c1⟩ := cs_backs l ls P ρ F hl nd1.2 hp1 nd3.2 c nF
        refine ⟨F1, a, b, ?_⟩
        unfold backs
        rw [hP]
        exact c1
      | some A =>
        obtain ⟨w, F1, F2, e1, e2, q, c1⟩ := c.split (i := j) (A := A) (by rw [List.getElem?_append_left lj, hP])
        rw [List.set_append_left _ _ lj] at c1
        have ev : w = v := by
          rw [List.getElem?_append_left (by simp; omega), List.getElem?_map, h1] at e1
          cases e1; rfl
        subst ev
        have nF2 := (e2.nodup_iff).mp nF
        obtain ⟨m1, m2, m3⟩ := List.nodup_append.mp nF2
        obtain ⟨F3, a, b, c2⟩ := cs_backs l ls (P.set j none) ρ F2 (by simpa using hl) nd1.2 hp1 nd3.2 c1 m2
        have eb : backs (P.set j none) ls ρ = backs P ls ρ := by
          have key : ∀ l2 : List (Nat × Nat × V), (∀ p ∈ l2, p.1 ≠ j) → backs (P.set j none) l2 ρ = backs P l2 ρ := fun l2 => by
            induction l2 with
            | nil => intro _; rfl
            | cons p l2 ih =>
              intro hj
              obtain ⟨j2, i2, v2⟩ := p
              have n : j2 ≠ j := hj (j2, i2, v2) (by simp)
              unfold backs
              rw [List.getElem?_set_ne (fun z => n z.symm), ih fun p hp => hj p (List.mem_cons_of_mem _ hp)]
          exact key ls fun p hp z => nd1.1 (List.mem_map.mpr ⟨p, hp, z⟩)
        rw [eb] at c2
        have fr : ∀ l2 : List (Nat × Nat × V), (∀ p ∈ l2, p.2.1 ≠ i) → (backs P l2 ρ)[i]? = some none := fun l2 => by
          induction l2 with
          | nil => intro _; exact h4
          | cons p l2 ih =>
            intro hi
            obtain ⟨j2, i2, v2⟩ := p
            have n : i2 ≠ i := hi (j2, i2, v2) (by simp)
            have q := ih fun p hp => hi p (List.mem_cons_of_mem _ hp)
            unfold backs
            split
            · rw [List.getElem?_set_ne n]; exact q
            · exact q
        have g1 := fr ls fun p hp z => nd3.1 (List.mem_map.mpr ⟨p, hp, z⟩)
        have c3 : Cs G H (T ++ (backs P ls ρ).set i none) (t ++ σ) F3 := by rw [set_get g1]; exact c2
        obtain ⟨F4, e4, c4⟩ := c3.back l (lt_of_get g1) h2 (A := pin w A) (F1 := F1) ⟨rfl, q⟩
        refine ⟨F4, (e4.nodup_iff).mpr (List.nodup_append.mpr ⟨m1, a, fun x hx y hy => m3 x hx y (b y hy)⟩), fun x hx => ?_, ?_⟩
        · refine e2.mem_iff.mpr (List.mem_append.mpr ?_)
          rcases List.mem_append.mp (e4.mem_iff.mp hx) with z | z
          · exact .inl z
          · exact .inr (b x z)
        · unfold backs
          rw [hP]
          exact c4
/-- f(a, ..) -/
theorem xe_call {k : Nat} {x : Str} {xx : δ} {r : γ} {ρo : Cl} (C : Cal X.prog X.w X.K X.mg X.base k x (SpM pre m post ret)) (hr : Room k X.A) (hm : m xx = some r) (ha : XL X (e :: es) ρ ρ1 (pre xx) ls)
    (hP : (post xx r).length = (pre xx).length) (n1 : (ls.map (·.1)).Nodup) (n2 : (ls.map (·.2.1)).Nodup) (hls : ∀ p ∈ ls, ρ1[p.2.1]? = some none) (hA : ret xx r = A) (ho : backs (post xx r) ls ρ1 = ρo)
    (hg : Gl X x := by rfl) (hdb : (x == ("__debug__" : Str)) = false := by decide) (he : starEach (e :: es) X.env = (false, eval e X.env) :: starEach es X.env := by rfl) (hpl : (backTo pos (starEach es X.env)).any (·.1) = false := by rfl) :
    XE X (.Call (.Name x p) (e :: es) [] pos) ρ ρo A := fun E T t σ H l st Q kk => by
  subst hA ho
  obtain ⟨f, fd, ps, F, h1, h2, h3⟩ := C.ex
  refine wE.of (pe_call F hr hg h1 h2 h3 .nil pass0 paS hdb he hpl) (ha E T t σ H l st _ fun vs H' hl hv st' => ?_)
  obtain ⟨G, F, f, c⟩ := st'
  obtain ⟨F1, F2, e1, c1, c2⟩ := c.unappend (by simp [hl])
  subst e1
  rw [List.append_nil]
  refine ⟨xx, r, G, F1, hm, (f.less (List.sublist_append_left _ _)).start, c1, hl, fun v H2 st2 => kk v H2 ?_⟩
  obtain ⟨G2, F3, f3, w, F4, F5, e2, e3, q, c3⟩ := st2
  cases e2
  subst e3
  obtain ⟨f4, keep⟩ := f.step (Fa := F1) (Fr := F2) (.refl _) f3
  have c4 : Cs G2 H2 (T ++ ρ1) (t ++ σ) F2 := c2.mono f3.gg f3.gh keep
  have c5 := c3.append c4
  have n5 : (F4 ++ (F5 ++ F2)).Nodup := by rw [← List.append_assoc]; exact f4.nd
  obtain ⟨m1, m2, m3⟩ := List.nodup_append.mp n5
  obtain ⟨F6, a, b, c6⟩ := cs_backs l ls (post xx r) ρ1 _ (hP.trans hl.symm) n1 (fun p hp => ⟨(hv p hp).1, (hv p hp).2, hls p hp⟩) n2 c5 m2
  exact ⟨G2, F4 ++ F6, f4.sub (List.nodup_append.mpr ⟨m1, a, fun x hx y hy => m3 x hx y (b y hy)⟩) (fun x hx => by
    rw [List.append_assoc]
    rcases List.mem_append.mp hx with z | z
    · exact List.mem_append_left _ z
    · exact List.mem_append_right _ (b x z)), v, F4, F6, rfl, rfl, q, c6⟩
end

/-! ### calls of built-ins -/
section
variable {X : Cx} {ρ ρ1 ρ2 ρ3 : Cl} {a b c e : Expr} {es : List Expr} {pos p : Pos} {A B : OA} {As : List OA} {d : PyData} {ds : List PyData}
theorem xe_callB {id : String} {x : Str} {r : List V → Hp → VK → Prop} (hc : CallR X (.builtin id) r) (ha : XA X (e :: es) ρ ρ1 As)
    (hr : ∀ E T t σ vs H Q, T.length = t.length → vs.length = As.length → ST E (As.map some ++ (T ++ ρ1)) (vs.map some ++ (t ++ σ)) H → (∀ v H', ST E (some B :: (T ++ ρ1)) (some v :: (t ++ σ)) H' → Q v H') → r vs H Q)
    (hm : X.mg x = none) (hv : bootBuiltins x = some (.builtin id)) (hg : Gl X x := by rfl) (hn : x ≠ "__name__" := by decide) (hdb : (x == ("__debug__" : Str)) = false := by decide)
    (he : starEach (e :: es) X.env = (false, eval e X.env) :: starEach es X.env := by rfl) (hpl : (backTo pos (starEach es X.env)).any (·.1) = false := by rfl) : XE X (.Call (.Name x p) (e :: es) [] pos) ρ ρ1 B := fun E T t σ H l st Q k =>
  wE.of (pe_callB hc hg hm hv paS hn hdb he hpl) (ha E T t σ H l st _ fun vs H' hl st' => hr E T t σ vs H' Q l hl st' k)
theorem xe_callTy {id : String} {x : Str} {r : List V → Hp → VK → Prop} (hc : CallR X (.type id) r) (ha : XA X (e :: es) ρ ρ1 As)
    (hr : ∀ E T t σ vs H Q, T.length = t.length → vs.length = As.length → ST E (As.map some ++ (T ++ ρ1)) (vs.map some ++ (t ++ σ)) H → (∀ v H', ST E (some B :: (T ++ ρ1)) (some v :: (t ++ σ)) H' → Q v H') → r vs H Q)
    (hm : X.mg x = none) (hv : bootBuiltins x = some (.type id)) (hg : Gl X x := by rfl) (hn : x ≠ "__name__" := by decide) (hdb : (x == ("__debug__" : Str)) = false := by decide)
    (he : starEach (e :: es) X.env = (false, eval e X.env) :: starEach es X.env := by rfl) (hpl : (backTo pos (starEach es X.env)).any (·.1) = false := by rfl) : XE X (.Call (.Name x p) (e :: es) [] pos) ρ ρ1 B := fun E T t σ H l st Q k =>
  wE.of (pe_callTy hc hg hm hv paS hn hdb he hpl) (ha E T t σ H l st _ fun vs H' hl st' => hr E T t σ vs H' Q l hl st' k)
theorem vs1 {vs : List V} (h : vs.length = 1) : ∃ v, vs = [v] := by
  match vs, h with
  | [v], _ => exact ⟨v, rfl⟩
theorem vs2 {vs : List V} (h : vs.length = 2) : ∃ v w, vs = [v, w] := by
  match vs, h with
  | [v, w], _ => exact ⟨v, w, rfl⟩
theorem xe_len {n : Nat} (ha : XE X a ρ ρ1 A) (r : Rsq X.K ρ1 A n) (hm : X.mg "len" = none) (hg : Gl X "len" := by rfl) (hs : starEach [a] X.env = [(false, eval a X.env)] := by rfl) (hpl : (backTo pos (starEach [] X.env)).any (·.1) = false := by rfl) : XE X (.Call (.Name "len" p) [a] [] pos) ρ ρ1 (aD X.K (.int n)) :=
  xe_callB call_len_seq (xa_cons ha xa_nil hs) (fun E T t σ vs H Q l hl st k => by
    obtain ⟨v, rfl⟩ := vs1 hl
    obtain ⟨G, F, Fv, f, cs, q⟩ := ST.one st
    obtain ⟨p, xs, e1, e2, e3⟩ := r l cs f.gh q
    exact ⟨p, xs, by rw [e1], e2, by rw [e3]; exact k _ H (ST.put f cs (.int _))⟩) hm PySem.boot_len hg (by decide) (by decide) hs hpl
theorem xe_int1 {i : Int} (ha : XE X a ρ ρ1 (aD X.K (.int i))) (hm : X.mg "int" = none) (hg : Gl X "int" := by rfl) (hs : starEach [a] X.env = [(false, eval a X.env)] := by rfl) (hpl : (backTo pos (starEach [] X.env)).any (·.1) = false := by rfl) : XE X (.Call (.Name "int" p) [a] [] pos) ρ ρ1 (aD X.K (.int i)) :=
  xe_callTy call_int1 (xa_cons ha xa_nil hs) (fun E T t σ vs H Q l hl st k => by
    obtain ⟨v, rfl⟩ := vs1 hl
    obtain ⟨G, F, f, cs, q⟩ := ST.top st
    cases q
    exact .inl ⟨i, rfl, k _ H (ST.put f cs (.int _))⟩) hm (by decide +kernel) hg (by decide) (by decide) hs hpl
theorem xe_int1b {i : Bool} (ha : XE X a ρ ρ1 (aD X.K (.bool i))) (hm : X.mg "int" = none) (hg : Gl X "int" := by rfl) (hs : starEach [a] X.env = [(false, eval a X.env)] := by rfl) (hpl : (backTo pos (starEach [] X.env)).any (·.1) = false := by rfl) : XE X (.Call (.Name "int" p) [a] [] pos) ρ ρ1 (aD X.K (.int (if i then 1 else 0))) :=
  xe_callTy call_int1 (xa_cons ha xa_nil hs) (fun E T t σ vs H Q l hl st k => by
    obtain ⟨v, rfl⟩ := vs1 hl
    obtain ⟨G, F, f, cs, q⟩ := ST.top st
    cases q
    exact .inr ⟨i, rfl, k _ H (ST.put f cs (.int _))⟩) hm (by decide +kernel) hg (by decide) (by decide) hs hpl
theorem xe_abs {i : Int} (ha : XE X a ρ ρ1 (aD X.K (.int i))) (hm : X.mg "abs" = none) (hg : Gl X "abs" := by rfl) (hs : starEach [a] X.env = [(false, eval a X.env)] := by rfl) (hpl : (backTo pos (starEach [] X.env)).any (·.1) = false := by rfl) : XE X (.Call (.Name "abs" p) [a] [] pos) ρ ρ1 (aD X.K (.int (if i < 0 then -i else i))) :=
  xe_callB call_abs (xa_cons ha xa_nil hs) (fun E T t σ vs H Q l hl st k => by
    obtain ⟨v, rfl⟩ := vs1 hl
    obtain ⟨G, F, f, cs, q⟩ := ST.top st
    cases q
    exact ⟨i, rfl, k _ H (ST.put f cs (.int _))⟩) hm (by decide +kernel) hg (by decide) (by decide) hs hpl
variable {i j : Int}
theorem xe_max2 (hc : X.calm = true) (ha : XE X a ρ ρ1 (aD X.K (.int i))) (hb : XE X b ρ1 ρ2 (aD X.K (.int j))) (hm : X.mg "max" = none) (hg : Gl X "max" := by rfl) (hs : starEach [a, b] X.env = (false, eval a X.env) :: starEach [b] X.env := by rfl) (hs2 : starEach [b] X.env = [(false, eval b X.env)] := by rfl) (hpl : (backTo pos (starEach [b] X.env)).any (·.1) = false := by rfl) :
    XE X (.Call (.Name "max" p) [a, b] [] pos) ρ ρ2 (aD X.K (.int (max i j))) :=
  xe_callB (call_max2 hc) (xa_cons ha (xa_cons hb xa_nil hs2) hs) (fun E T t σ vs H Q l hl st k => by
    obtain ⟨v, w, rfl⟩ := vs2 hl
    obtain ⟨G, F, f, cs, q⟩ := ST.args (ds := [.int i, .int j]) rfl st
    cases q with
    | cons q1 q => cases q with
      | cons q2 q =>
        cases q1
        cases q2
        refine ⟨i, j, rfl, ?_⟩
        have e : (if j > i then j else i) = max i j := by rw [Int.max_def]; split <;> split <;> omega
        rw [e]
        exact k _ H (ST.put f cs (.int _))) hm (by decide +kernel) hg (by decide) (by decide) hs hpl
theorem xe_min2 (hc : X.calm = true) (ha : XE X a ρ ρ1 (aD X.K (.int i))) (hb : XE X b ρ1 ρ2 (aD X.K (.int j))) (hm : X.mg "min" = none) (hg : Gl X "min" := by rfl) (hs : starEach [a, b] X.env = (false, eval a X.env) :: starEach [b] X.env := by rfl) (hs2 : starEach [b] X.env = [(false, eval b X.env)] := by rfl) (hpl : (backTo pos (starEach [b] X.env)).any (·.1) = false := by rfl) :
    XE X (.Call (.Name "min" p) [a, b] [] pos) ρ ρ2 (aD X.K (.int (min i j))) :=
  xe_callB (call_min2 hc) (xa_cons ha (xa_cons hb xa_nil hs2) hs) (fun E T t σ vs H Q l hl st k => by
    obtain ⟨v, w, rfl⟩ := vs2 hl
    obtain ⟨G, F, f, cs, q⟩ := ST.args (ds := [.int i, .int j]) rfl st
    cases q with
    | cons q1 q => cases q with
      | cons q2 q =>
        cases q1
        cases q2
        refine ⟨i, j, rfl, ?_⟩
        have e : (if j < i then j else i) = min i j := by rw [Int.min_def]; split <;> split <;> omega
        rw [e]
        exact k _ H (ST.put f cs (.int _))) hm (by decide +kernel) hg (by decide) (by decide) hs hpl
/-- list(xs): a new list -/
theorem xe_list (ha : XE X a ρ ρ1 A) (r : Rls X.K ρ1 A ds) (hm : X.mg "list" = none) (hg : Gl X "list" := by rfl) (hs : starEach [a] X.env = [(false, eval a X.env)] := by rfl) (hpl : (backTo pos (starEach [] X.env)).any (·.1) = false := by rfl) : XE X (.Call (.Name "list" p) [a] [] pos) ρ ρ1 (aLD X.K ds) :=
  xe_callTy call_list_of (xa_cons ha xa_nil hs) (fun E T t σ vs H Q l hl st k => by
    obtain ⟨v, rfl⟩ := vs1 hl
    obtain ⟨G, F, Fv, f, cs, q⟩ := ST.one st
    obtain ⟨p, xs, e1, e2, e3⟩ := r l cs f.gh q
    exact ⟨p, xs, by rw [e1], .inl e2, fun p hp => k _ _ (ST.newL f cs hp e3)⟩) hm (by decide +kernel) hg (by decide) (by decide) hs hpl
theorem xe_listT (ha : XE X a ρ ρ1 A) (r : Rtu X.K ρ1 A ds) (hm : X.mg "list" = none) (hg : Gl X "list" := by rfl) (hs : starEach [a] X.env = [(false, eval a X.env)] := by rfl) (hpl : (backTo pos (starEach [] X.env)).any (·.1) = false := by rfl) : XE X (.Call (.Name "list" p) [a] [] pos) ρ ρ1 (aLD X.K ds) :=
  xe_callTy call_list_of (xa_cons ha xa_nil hs) (fun E T t σ vs H Q l hl st k => by
    obtain ⟨v, rfl⟩ := vs1 hl
    obtain ⟨G, F, Fv, f, cs, q⟩ := ST.one st
    obtain ⟨p, xs, e1, e2, e3⟩ := r l cs f.gh q
    exact ⟨p, xs, by rw [e1], .inr e2, fun p hp => k _ _ (ST.newL f cs hp e3)⟩) hm (by decide +kernel) hg (by decide) (by decide) hs hpl
theorem ints_eq {K : PySem.W.Frag} {G : Hp} : ∀ {ns : List Int} {vs : List V}, DqAll K G vs (ns.map PyData.int) → vs = ns.map V.int
  | [], _, h => by cases h; rfl
  | n :: ns, _, h => by
    cases h with
    | cons h1 h2 =>
      cases h1
      rw [ints_eq h2]
      rfl
theorem xe_sum {ns : List Int} (hc : X.calm = true) (ha : XE X a ρ ρ1 A) (r : Rls X.K ρ1 A (ns.map PyData.int)) (hm : X.mg "sum" = none) (hg : Gl X "sum" := by rfl) (hs : starEach [a] X.env = [(false, eval a X.env)] := by rfl) (hpl : (backTo pos (starEach [] X.env)).any (·.1) = false := by rfl) : XE X (.Call (.Name "sum" p) [a] [] pos) ρ ρ1 (aD X.K (.int ns.sum)) :=
  xe_callB (cr_sum hc) (xa_cons ha xa_nil hs) (fun E T t σ vs H Q l hl st k => by
    obtain ⟨v, rfl⟩ := vs1 hl
    obtain ⟨G, F, Fv, f, cs, q⟩ := ST.one st
    obtain ⟨p, xs, e1, e2, e3⟩ := r l cs f.gh q
    have e4 := ints_eq e3
    subst e4
    exact ⟨p, ns, by rw [e1], e2, k _ H (ST.put f cs (.int _))⟩) hm (by decide +kernel) hg (by decide) (by decide) hs hpl
end
end Mr

set_option Elab.async false
set_option linter.all false
set_option maxRecDepth 100000
namespace Mr
open PySem PySem.Spec PyProof.Rows L2

/-! ### owned lists that are changed -/
theorem ST.modL {E : Ent} {T ρ : Cl} {t σ : L2.St} {H : Hp} {B : OA} {y v0 : V} {i : Nat} {As : List OA} (l : T.length = t.length) (st : ST E (some B :: (T ++ ρ)) (some y :: (t ++ σ)) H) (hi : ρ[i]? = some (some (pin v0 (aL As)))) :
    ∃ p vs, v0 = .ref p ∧ H p = some (.lst vs) ∧ vs.length = As.length ∧ ∀ (As' : List OA) (vs' : List V),
      (∀ G H F1 F2, Cs G H (As.map some) (vs.map some) F1 → B.P G H y F2 → ∃ F3, (∀ b ∈ F3, b ∈ F1 ++ F2) ∧ ((F1 ++ F2).Nodup → F3.Nodup) ∧ Cs G H (As'.map some) (vs'.map some) F3) →
      ST E (T ++ ρ.set i (some (pin v0 (aL As')))) (t ++ σ) (upd H p (.lst vs')) := by
  obtain ⟨G, F, f, y', Fb, F0, e1, e2, hb, cs⟩ := st
  cases e1
  subst e2
  obtain ⟨v, F1, F2, e3, e4, ⟨e5, p, vs, F', e6, e7, h1, c1⟩, c2⟩ := cs.slot l hi
  subst e5 e6 e7
  refine ⟨p, vs, rfl, h1, by simpa using c1.len.symm, fun As' vs' k => ?_⟩
  have perm : (Fb ++ F0).Perm ((p :: (F' ++ Fb)) ++ F2) := by
    refine (List.Perm.append_left Fb e4).trans ?_
    have q : (Fb ++ (p :: F' ++ F2)).Perm ((p :: F' ++ F2) ++ Fb) := List.perm_append_comm
    refine q.trans ?_
    show (p :: (F' ++ F2 ++ Fb)).Perm (p :: ((F' ++ Fb) ++ F2))
    refine List.Perm.cons p ?_
    rw [List.append_assoc, List.append_assoc]
    exact List.Perm.append_left F' List.perm_append_comm
  have f1 := f.perm perm
  have f2 : Frm ⟨G, H, p :: (F' ++ Fb)⟩ G H (p :: (F' ++ Fb)) := (f1.less (List.sublist_append_left _ _)).start
  have f3 := Frm.write (o := .lst vs') f2
  have nd := f2.nd
  have np : ∀ b ∈ F' ++ Fb, b ≠ p := fun b hb z => by
    subst z
    exact (List.nodup_cons.mp nd).1 hb
  have keep : ∀ b ∈ F' ++ Fb, ∀ o, H b = some o → upd H p (.lst vs') b = some o := fun b hb o q => by rw [upd_ne (np b hb)]; exact q
  obtain ⟨F3, k1, k2, k3⟩ := k G (upd H p (.lst vs')) F' Fb (c1.mono (.refl _) f3.gh fun b hb => keep b (List.mem_append_left _ hb)) (B.mono hb (.refl _) f3.gh fun b hb => keep b (List.mem_append_right _ hb))
  have f4 : Frm ⟨G, H, p :: (F' ++ Fb)⟩ G (upd H p (.lst vs')) (p :: F3) := f3.sub (List.nodup_cons.mpr ⟨fun z => (List.nodup_cons.mp nd).1 (k1 p z), k2 (List.nodup_cons.mp nd).2⟩) fun b hb => by
    rcases List.mem_cons.mp hb with z | z
    · exact z ▸ List.mem_cons_self
    · exact List.mem_cons_of_mem _ (k1 b z)
  obtain ⟨f5, st5⟩ := f.step perm f4
  have c3 : Cs G (upd H p (.lst vs')) (T ++ ρ.set i none) (t ++ σ) F2 := c2.mono (.refl _) f5.gh st5
  obtain ⟨F6, e8, c4⟩ := c3.back l (lt_of_get hi) e3 (A := pin (.ref p) (aL As')) (F1 := p :: F3) ⟨rfl, p, vs', F3, rfl, rfl, upd_same, k3⟩
  exact ⟨G, F6, f5.perm e8.symm, c4⟩
theorem ST.drop2 {E : Ent} {A B : OA} {L : Cl} {C : L2.St} {H : Hp} {y x : Option V} (st : ST E (some B :: some A :: L) (y :: x :: C) H) : ST E (some B :: L) (y :: C) H := by
  obtain ⟨G, F, f, w, F1, F2, e1, e2, q, u, F3, F4, e3, e4, q2, c⟩ := st
  subst e4 e2
  exact ⟨G, F1 ++ F4, f.less (List.Sublist.append_left (List.sublist_append_right _ _) F1), w, F1, F4, e1, rfl, q, c⟩
theorem Cs.ofNil {G H : Hp} {A : OA} {y : V} {F : List Addr} (h : A.P G H y F) : Cs G H [some A] [some y] F := ⟨y, F, [], rfl, by simp, h, rfl⟩
/-- a list at a slot, for a method of lists -/
theorem ST.isL {X : Cx} {E : Ent} {T ρ : Cl} {t σ : L2.St} {H : Hp} {v0 v : V} {i : Nat} {As : List OA} (l : T.length = t.length) (st : ST E (some (aV v0) :: (T ++ ρ)) (some v :: (t ++ σ)) H) (hi : ρ[i]? = some (some (pin v0 (aL As)))) : v = v0 ∧ tyV X.K "list" v H := by
  obtain ⟨G, F, Fv, f, cs, e0, _⟩ := ST.one st
  obtain ⟨w, F1, F2, e3, e4, ⟨e5, p, vs, F', e6, e7, h1, c1⟩, c2⟩ := cs.slot l hi
  subst e0 e5 e6
  exact ⟨rfl, .inl ⟨rfl, vs, .inl (.inl h1)⟩⟩
section
variable {X : Cx} {ρ ρ1 ρ2 ρ3 : Cl} {a b c e o : Expr} {pos p apos cpos : Pos} {A B : OA} {As As0 : List OA} {d : PyData} {ds : List PyData} {v0 : V}
/-- xs.append(e) -/
theorem xe_append (i : Nat) (ho : XE X o ρ ρ (aV v0)) (h0 : ρ[i]? = some (some (pin v0 (aL As0)))) (he : XE X e ρ ρ1 B) (h1 : ρ1[i]? = some (some (pin v0 (aL As)))) (hz : As.length < sizeLine)
    (hbase : attributeBase o "append" X.env (eval o X.env) = eval o X.env := by rfl) (hfew : ((backTo cpos (starEach [e] X.env)).all (fun x => !x.1) && (backToKw cpos (keywordEach [] X.env)).all (fun x => x.1.isSome) && decide ([e].length + ([] : List Keyword).length + (if ([] : List Keyword).isEmpty then 0 else 1) < 30)) = true := by rfl)
    (hline : (apos.endLine == cpos.line) = true := by rfl) (hs : starEach [e] X.env = (false, eval e X.env) :: starEach [] X.env := by rfl) (hplain : (backTo cpos (starEach [] X.env)).any (·.1) = false := by rfl) :
    XE X (.Call (.Attribute o "append" apos) [e] [] cpos) ρ (ρ1.set i (some (pin v0 (aL (As ++ [B]))))) (aD X.K .none) := fun E T t σ H l st Q k =>
  wE.of (pe_bm PySem.F.plainAttrs_list PySem.F.slot_list_append PySem.F.type_list_append mt_append peS (pa_cons peS pa_nil hs) hbase hfew hline hs hplain) (ho E T t σ H l st _ fun x H1 st1 => by
    obtain ⟨e0, ty⟩ := ST.isL (X := X) l st1 h0
    subst e0
    refine ⟨ty, he E (_ :: T) (_ :: t) σ H1 (by simp [l]) st1 _ fun y H2 st2 => ?_⟩
    have st3 : ST E (some B :: (T ++ ρ1)) (some y :: (t ++ σ)) H2 := by
      exact ST.drop2 st2
    obtain ⟨p, vs, e1, h2, hl, go⟩ := ST.modL l st3 h1
    refine ⟨p, vs, y, e1, rfl, h2, by rw [hl]; exact hz, k _ _ ?_⟩
    have st4 := go (As ++ [B]) (vs ++ [y]) fun G H F1 F2 c q => ⟨F1 ++ F2, fun b hb => hb, fun n => n, by simpa using c.append (Cs.ofNil q)⟩
    obtain ⟨G, F, f, c⟩ := st4
    exact ST.put f c .non)
/-- of data -/
theorem xe_appendD {α : Type} {cv : α → PyData} {xs : List α} {x : α} (i : Nat) (ho : XE X o ρ ρ (aV v0)) (h0 : ρ[i]? = some (some (pin v0 (aL As0)))) (he : XE X e ρ ρ1 (aD X.K (cv x))) (h1 : ρ1[i]? = some (some (pin v0 (aLD X.K (xs.map cv))))) (hz : xs.length < sizeLine)
    (hbase : attributeBase o "append" X.env (eval o X.env) = eval o X.env := by rfl) (hfew : ((backTo cpos (starEach [e] X.env)).all (fun x => !x.1) && (backToKw cpos (keywordEach [] X.env)).all (fun x => x.1.isSome) && decide ([e].length + ([] : List Keyword).length + (if ([] : List Keyword).isEmpty then 0 else 1) < 30)) = true := by rfl)
    (hline : (apos.endLine == cpos.line) = true := by rfl) (hs : starEach [e] X.env = (false, eval e X.env) :: starEach [] X.env := by rfl) (hplain : (backTo cpos (starEach [] X.env)).any (·.1) = false := by rfl) :
    XE X (.Call (.Attribute o "append" apos) [e] [] cpos) ρ (ρ1.set i (some (pin v0 (aLD X.K ((xs ++ [x]).map cv))))) (aD X.K .none) := by
  have q := xe_append (apos := apos) (cpos := cpos) i ho h0 he h1 (by simpa using hz) hbase hfew hline hs hplain
  have e : (xs.map cv).map (aD X.K) ++ [aD X.K (cv x)] = ((xs ++ [x]).map cv).map (aD X.K) := by simp
  rwa [e] at q
theorem Cs.getP {G H : Hp} {A : OA} : ∀ {As : List OA} {vs : List V} {F : List Addr} {j : Nat}, Cs G H (As.map some) (vs.map some) F → As[j]? = some A → ∃ v F1 F2, vs[j]? = some v ∧ F.Perm (F1 ++ F2) ∧ A.P G H v F1 ∧ Cs G H ((As.map some).set j none) (vs.map some) F2 := fun {As vs F j} c h => by
  obtain ⟨v, F1, F2, e1, e2, q, c2⟩ := c.split (i := j) (A := A) (by rw [List.getElem?_map, h]; rfl)
  rw [List.getElem?_map] at e1
  cases hv : vs[j]? with
  | none => rw [hv] at e1; cases e1
  | some w =>
    rw [hv] at e1
    cases e1
    exact ⟨v, F1, F2, rfl, e2, q, c2⟩
theorem cs_set {G H : Hp} {As : List OA} {vs : List V} {y : V} {j : Nat} {F1 F2 : List Addr} (hj : j < As.length) (c : Cs G H (As.map some) (vs.map some) F1) (q : B.P G H y F2) : ∃ F3, (∀ b ∈ F3, b ∈ F1 ++ F2) ∧ ((F1 ++ F2).Nodup → F3.Nodup) ∧ Cs G H ((As.set j B).map some) ((vs.set j y).map some) F3 := by
  obtain ⟨F3, s, c1⟩ := c.forget (i := j) (x := none)
  obtain ⟨F4, p, c2⟩ := c1.join (by simpa using hj) q
  rw [set_set] at c2
  refine ⟨F4, fun b hb => ?_, fun n => ?_, by simpa [List.map_set] using c2⟩
  · rcases List.mem_append.mp (p.mem_iff.mp hb) with z | z
    · exact List.mem_append_right _ z
    · exact List.mem_append_left _ (s.subset z)
  · refine (p.nodup_iff).mpr ((List.perm_append_comm.nodup_iff).mp (n.sublist (List.Sublist.append_right s F2)))
/-- xs[n] = .. -/
theorem xp_setL (i : Nat) {j : Nat} {n : Int} (ho : XE X o ρ ρ (aV v0)) (hb : XE X b ρ ρ1 (aD X.K (.int n))) (h1 : ρ1[i]? = some (some (pin v0 (aL As)))) (hn : ixN As.length n = some j)
    (ha : ∀ v, assign (.Subscript o b pos) X.env v = (do
      let ov ← holding [v] (eval o X.env)
      let iv ← holding [v, ov] (eval b X.env)
      standAt pos
      holding [v, ov, iv] (setItem ov iv v)
      release [v, ov, iv] []) := by intro _; rfl) : XP X (.Subscript o b pos) B ρ (ρ1.set i (some (pin v0 (aL (As.set j B))))) := fun E T t σ H v l st Q k =>
  wG.of (pg_sub peS peS set_list ha) (ho E (_ :: T) (_ :: t) σ H (by simp [l]) st _ fun x H1 st1 => by
    refine hb E (_ :: _ :: T) (_ :: _ :: t) σ H1 (by simp [l]) st1 _ fun y H2 st2 => ?_
    obtain ⟨G, F, f, c, q1⟩ := ST.top st2
    cases q1
    obtain ⟨u, F1, F2, e1, e2, ⟨e3, e4⟩, c⟩ := c
    cases e1
    subst e4 e2 e3
    obtain ⟨p, vs, e5, h2, hl, go⟩ := ST.modL l ⟨G, _, f, c⟩ h1
    have hj : j < As.length := by
      unfold ixN at hn
      split at hn
      · split at hn
        · cases hn; omega
        · cases hn
      · split at hn
        · cases hn; omega
        · cases hn
    exact ⟨p, vs, n, j, e5, rfl, h2, by rw [hl]; exact hn, k _ _ (go _ _ fun G H F1 F2 c q => cs_set hj c q)⟩)
/-- xs[n] op= e: the item and e are ints -/
theorem get_list : PGet X (rIxL X.K) := by
  intro pins s σ H x y v u Q I rx ry h
  obtain ⟨p, xs, i, z, rfl, rfl, hq, he, q⟩ := h
  cases rx
  obtain ⟨t, rfl⟩ := ry
  obtain ⟨its, r, pl, hz⟩ := I.list hq
  obtain ⟨j, h1, h2, h3, h4, h5⟩ := atI_get he
  obtain ⟨w, ew, rw'⟩ := r.get h2
  have hl := r.length
  have hn := line63
  have fin : EP X pins σ Q w s := ⟨z, H, I, rw', q⟩
  by_cases h0 : 0 ≤ i
  · have hj : i.toNat = j := by
      rw [seqIndex_of h0 h5] at h1
      exact Option.some.inj h1
    exact wpAny_mono (wpAny_getItem_list (Q := fun r s' => r = w ∧ s' = s) pl.isList h0 (by omega) (by rw [hj]; simpa using ew) ⟨rfl, rfl⟩) (fun r s' ⟨e1, e2⟩ => by subst e1 e2; exact fin) fun _ _ h => h
  · have hj : (i + (its.toArray.size : Int)).toNat = j := by
      rw [seqIndex_neg (by omega) h4] at h1
      rw [List.size_toArray, ← hl]
      exact Option.some.inj h1
    exact wpAny_mono (wpAny_getItem_list_neg (Q := fun r s' => r = w ∧ s' = s) pl.isList (by omega) (by rw [List.size_toArray] <;> omega) (by omega) (by rw [hj]; simpa using ew) ⟨rfl, rfl⟩) (fun r s' ⟨e1, e2⟩ => by subst e1 e2; exact fin) fun _ _ h => h
theorem xg_augL {ω : Type} {rest : List Stmt} {m : Option ω} {Φ : ω → Ent → Ends → Prop} {op : Operator} {g : Int → Int → Int} {n x k : Int} {tpos : Pos} (i : Nat) {j : Nat} (hop : PIp X op (ipI g)) (ho : XE X o ρ ρ (aV v0)) (hb : XE X b ρ ρ (aD X.K (.int n))) (h1 : ρ[i]? = some (some (pin v0 (aL As)))) (hn : ixN As.length n = some j) (hx : As[j]? = some (aD X.K (.int x)))
    (he : XE X e ρ ρ1 (aD X.K (.int k))) (h2 : ρ1[i]? = some (some (pin v0 (aL As)))) (h : XG X rest (ρ1.set i (some (pin v0 (aL (As.set j (aD X.K (.int (g x k)))))))) m Φ)
    (ha : ∀ ov iv new, augStore b ov iv new = (do holding [new, ov, iv] (setItem ov iv new); release [new, ov, iv] []; pure .next) := by intros; rfl) : XG X (.AugAssign (.Subscript o b tpos) op e pos :: rest) ρ m Φ := fun r hr E σ H D st q =>
  wS.of (pss_cons (ps_augS peS peS get_list peS hop set_list ha) pssS) (ho E [] [] σ H rfl st _ fun v H1 st1 => hb E [_] [_] σ H1 rfl st1 _ fun w H2 st2 => by
    obtain ⟨G, F, f, c, q1⟩ := ST.top st2
    cases q1
    have st3 : ST E ρ σ H2 := ST.pop (A := aV v0) (x := some v) ⟨G, F, f, c⟩
    have ev : v = v0 := by
      obtain ⟨u, F1, F2, e1, e2, ⟨e3, e4⟩, c⟩ := c
      cases e1
      exact e3
    subst ev
    have st30 := st3
    obtain ⟨G, F, f, c⟩ := st30
    obtain ⟨v, F3, F4, e5, e6, ⟨e7, p, vs, F5, e8, e9, h3, c1⟩, c2⟩ := Cs.slot (T := []) (t := []) rfl c h1
    subst e7 e8
    obtain ⟨z, hz, hq⟩ := c1.getD hx
    cases hq
    have hl : vs.length = As.length := by simpa using c1.len.symm
    refine ⟨p, vs, n, .int x, rfl, rfl, .inl (.inl h3), by unfold atI; rw [hl, hn]; exact hz, he E [] [] σ H2 rfl st3 _ fun y H3 st4 => ?_⟩
    obtain ⟨G, F, f, c, q2⟩ := ST.top st4
    cases q2
    refine ⟨x, k, rfl, rfl, ?_⟩
    obtain ⟨p', vs', e10, h4, hl', go⟩ := ST.modL (T := []) (t := []) rfl (ST.put (K := X.K) (v := .int (g x k)) f c (.int _)) h2
    cases e10
    have hj : j < As.length := lt_of_get hx
    exact ⟨p, vs', n, j, rfl, rfl, h4, by rw [hl']; exact hn, h r hr E σ _ D (go _ _ fun G H F1 F2 c q => cs_set hj c q) q⟩)

/-! ### isinstance -/
def Rty (K : PySem.W.Frag) (ρ : Cl) (A : OA) (ty : String) : Prop := ∀ {G H : Hp} {T : Cl} {t σ : L2.St} {F Fv : List Addr} {v : V}, T.length = t.length → Cs G H (T ++ ρ) (t ++ σ) F → Ex G H → A.P G H v Fv → TyX K H v (.type ty)
def tyN : PyData → String
  | .none => "NoneType"
  | .bool _ => "bool"
  | .int _ => "int"
  | .str _ => "str"
  | .list _ => "list"
  | .tuple _ => "tuple"
  | .dict _ => "dict"
theorem sqt_ty {K : PySem.W.Frag} {H : Hp} {a : Addr} {xs : List V} (h : SqT K H a xs) : TyX K H (.ref a) (.type "tuple") := by
  rcases h with (h | ⟨o, h⟩) | ⟨o, its, n, h1, h2, h3, _, _⟩
  · exact .base (.tup h)
  · exact .fTuple h
  · exact .kTuple h1 h2
theorem sql_ty {K : PySem.W.Frag} {H : Hp} {a : Addr} {xs : List V} (h : SqL K H a xs) : TyX K H (.ref a) (.type "list") := by
  rcases h with (h | ⟨o, h⟩) | ⟨o, its, n, h1, h2, h3, _, _⟩
  · exact .base (.lst h)
  · exact .base (.frz h)
  · exact .kList h1 h2
theorem Dq.ty {K : PySem.W.Frag} {G : Hp} {v : V} (h : Dq K G v d) : TyX K G v (.type (tyN d)) := by
  cases h with
  | non => exact .base .non
  | bl b => exact .base (.bl b)
  | int i => exact .base (.int i)
  | str x => exact .base (.str x)
  | lst h1 h2 => exact .base (.lst h1)
  | tup h1 h2 => exact sqt_ty h1
theorem rty_data : Rty X.K ρ (aD X.K d) (tyN d) := fun l c e p => (Dq.mono e _ _ p.1).ty
theorem rty_list {ds : List PyData} (h : Rls X.K ρ A ds) : Rty X.K ρ A "list" := fun l c e p => by
  obtain ⟨a, xs, e1, e2, e3⟩ := h l c e p
  subst e1
  exact sql_ty e2
theorem xe_ty {x ty : String} (hm : X.mg x = none) (hv : bootBuiltins x = some (.type ty)) (hg : Gl X x := by rfl) (hn : (x : Str) ≠ "__name__" := by decide) (hd : ((x : Str) == ("__debug__" : Str)) = false := by decide) : XE X (.Name x pos) ρ ρ (aV (.ty ty)) := fun E T t σ H l st Q k => by
  obtain ⟨G, F, f, cs⟩ := st
  exact wE.of (pe_bltn (v := .ty ty) hg hm hv rfl hn hd) (k (.ty ty) H ⟨G, F, f, .ty ty, [], F, rfl, rfl, ⟨rfl, rfl⟩, cs⟩)
theorem xe_isi {T U : String} {k : Bool} (ha : XE X a ρ ρ1 A) (hb : XE X b ρ1 ρ1 (aV (.ty U))) (r : Rty X.K ρ1 A T) (hk : kitB T U = some k) (hm : X.mg "isinstance" = none) (hg : Gl X "isinstance" := by rfl) (hs : starEach [a, b] X.env = (false, eval a X.env) :: starEach [b] X.env := by rfl) (hs2 : starEach [b] X.env = [(false, eval b X.env)] := by rfl) (hpl : (backTo pos (starEach [b] X.env)).any (·.1) = false := by rfl) :
    XE X (.Call (.Name "isinstance" p) [a, b] [] pos) ρ ρ1 (aD X.K (.bool k)) :=
  xe_callB call_isi (xa_cons ha (xa_cons hb xa_nil hs2) hs) (fun E T t σ vs H Q l hl st kk => by
    obtain ⟨v, w, rfl⟩ := vs2 hl
    obtain ⟨G, F, f, c⟩ := st
    obtain ⟨v', F1, F2, e1, e2, q1, w', F3, F4, e3, e4, ⟨q2, _⟩, c⟩ := c
    cases e1
    cases e3
    subst q2 e2 e4
    exact ⟨v, _, _, _, k, rfl, .ty U, r l c f.gh q1, kit_ty hk, kk _ H (ST.put (f.less ((List.sublist_append_right _ _).trans (List.sublist_append_right _ _))) c (.bl _))⟩) hm (by decide +kernel) hg (by decide) (by decide) hs hpl
end
end Mr

set_option Elab.async false
set_option linter.all false
set_option maxRecDepth 100000
namespace Mr
open PySem PySem.Spec PyProof.Rows L2

/-! ### comprehensions: their mirrors -/
section
variable {α β δ : Type}
def compG (tb : β → α → Option Bool) (fe : β → α → Option (δ × β)) : List α → β → List δ → Option (List δ × β)
  | [], s, acc => some (acc, s)
  | x :: xs, s, acc => (tb s x).bind fun b => if b = true then (fe s x).bind fun o => compG tb fe xs o.2 (acc ++ [o.1]) else compG tb fe xs s acc
def mapL (f : α → Option δ) : List α → Option (List δ)
  | [] => some []
  | x :: xs => (f x).bind fun y => (mapL f xs).bind fun ys => some (y :: ys)
def fltL (t : α → Option Bool) (f : α → Option δ) : List α → Option (List δ)
  | [] => some []
  | x :: xs => (t x).bind fun b => if b = true then (f x).bind fun y => (fltL t f xs).bind fun ys => some (y :: ys) else fltL t f xs
def mapT (f : β → α → Option (δ × β)) : List α → β → Option (List δ × β)
  | [], s => some ([], s)
  | x :: xs, s => (f s x).bind fun o => (mapT f xs o.2).bind fun r => some (o.1 :: r.1, r.2)
/-- as comprehensions: at most a million turns -/
def mapO (f : α → Option δ) (xs : List α) : Option (List δ) := if xs.length ≤ 1000000 then mapL f xs else none
def fltO (t : α → Option Bool) (f : α → Option δ) (xs : List α) : Option (List δ) := if xs.length ≤ 1000000 then fltL t f xs else none
def mapS (f : β → α → Option (δ × β)) (xs : List α) (s : β) : Option (List δ × β) := if xs.length ≤ 1000000 then mapT f xs s else none
theorem compG_map {f : α → Option δ} : ∀ {xs : List α} {ys acc : List δ}, mapL f xs = some ys → compG (fun (_ : Unit) _ => some true) (fun _ x => (f x).map fun y => (y, ())) xs () acc = some (acc ++ ys, ())
  | [], ys, acc, h => by
    cases h
    simp [compG]
  | x :: xs, ys, acc, h => by
    unfold mapL at h
    cases h1 : f x with
    | none => rw [h1] at h; cases h
    | some y =>
      rw [h1] at h
      cases h2 : mapL f xs with
      | none => rw [h2] at h; cases h
      | some zs =>
        rw [h2] at h
        cases h
        have q := compG_map (acc := acc ++ [y]) h2
        unfold compG
        rw [h1]
        show compG _ _ xs () (acc ++ [y]) = _
        rw [q, List.append_assoc]
        rfl
theorem compG_flt {t : α → Option Bool} {f : α → Option δ} : ∀ {xs : List α} {ys acc : List δ}, fltL t f xs = some ys → compG (fun (_ : Unit) => t) (fun _ x => (f x).map fun y => (y, ())) xs () acc = some (acc ++ ys, ())
  | [], ys, acc, h => by
    cases h
    simp [compG]
  | x :: xs, ys, acc, h => by
    unfold fltL at h
    cases h0 : t x with
    | none => rw [h0] at h; cases h
    | some b =>
      rw [h0] at h
      cases b with
      | false =>
        have h : fltL t f xs = some ys := h
        have q := compG_flt (acc := acc) h
        unfold compG
        rw [h0]
        exact q
      | true =>
        have h : ((f x).bind fun y => (fltL t f xs).bind fun ys => some (y :: ys)) = some ys := h
        cases h1 : f x with
        | none => rw [h1] at h; cases h
        | some y =>
          rw [h1] at h
          cases h2 : fltL t f xs with
          | none => rw [h2] at h; cases h
          | some zs =>
            rw [h2] at h
            cases h
            have q := compG_flt (acc := acc ++ [y]) h2
            unfold compG
            rw [h0, h1]
            show compG _ _ xs () (acc ++ [y]) = _
            rw [q, List.append_assoc]
            rfl
theorem compG_mapT {f : β → α → Option (δ × β)} : ∀ {xs : List α} {s s1 : β} {ys acc : List δ}, mapT f xs s = some (ys, s1) → compG (fun _ _ => some true) f xs s acc = some (acc ++ ys, s1)
  | [], s, s1, ys, acc, h => by
    cases h
    simp [compG]
  | x :: xs, s, s1, ys, acc, h => by
    unfold mapT at h
    cases h1 : f s x with
    | none => rw [h1] at h; cases h
    | some o =>
      rw [h1] at h
      have h : ((mapT f xs o.2).bind fun r => some (o.1 :: r.1, r.2)) = some (ys, s1) := h
      cases h2 : mapT f xs o.2 with
      | none => rw [h2] at h; cases h
      | some r =>
        obtain ⟨r1, r2⟩ := r
        rw [h2] at h
        cases h
        have q := compG_mapT (acc := acc ++ [o.1]) h2
        unfold compG
        show ((f s x).bind fun o => compG _ f xs o.2 (acc ++ [o.1])) = _
        rw [h1]
        show compG _ f xs o.2 (acc ++ [o.1]) = _
        rw [q, List.append_assoc]
        rfl
end
theorem Cs.free {G H : Hp} {x : Option V} : ∀ {ρ : Cl} {σ : L2.St} {F : List Addr} {i : Nat}, Cs G H ρ (σ.set i x) F → ρ[i]? = some none → Cs G H ρ σ F
  | [], σ, F, i, c, h => by simp at h
  | none :: ρ, [], F, i, c, h => by cases i <;> exact c.elim
  | some A :: ρ, [], F, i, c, h => by cases i <;> exact c.elim
  | none :: ρ, y :: σ, F, 0, c, h => c
  | some A :: ρ, y :: σ, F, 0, c, h => by simp at h
  | none :: ρ, y :: σ, F, i + 1, c, h => Cs.free (ρ := ρ) (σ := σ) (i := i) c (by simpa using h)
  | some A :: ρ, y :: σ, F, i + 1, c, h => by
    obtain ⟨v, F1, F2, e1, e2, a, c⟩ := c
    exact ⟨v, F1, F2, e1, e2, a, c.free (by simpa using h)⟩
theorem Cs.freeT {G H : Hp} {x : Option V} {T ρ : Cl} {t σ : L2.St} {F : List Addr} {i : Nat} (l : T.length = t.length) (c : Cs G H (T ++ ρ) (t ++ σ.set i x) F) (h : ρ[i]? = some none) : Cs G H (T ++ ρ) (t ++ σ) F := by
  rw [← append_set_right, ← l] at c
  exact c.free (by rw [append_get_right]; exact h)
theorem Cs.forgetT {G H : Hp} {x : Option V} {T ρ : Cl} {t σ : L2.St} {F : List Addr} {i : Nat} (l : T.length = t.length) (c : Cs G H (T ++ ρ) (t ++ σ) F) : ∃ F', F'.Sublist F ∧ Cs G H (T ++ ρ.set i none) (t ++ σ.set i x) F' := by
  obtain ⟨F', s, q⟩ := c.forget (i := T.length + i) (x := x)
  rw [append_set_right, l, append_set_right] at q
  exact ⟨F', s, q⟩
theorem ST.wkT {E : Ent} {T ρ ρ' : Cl} {t σ : L2.St} {H : Hp} (l : T.length = t.length) (h : ST E (T ++ ρ) (t ++ σ) H) (w : Wk ρ ρ') : ST E (T ++ ρ') (t ++ σ) H := by
  obtain ⟨G, F, f, c⟩ := h
  obtain ⟨F1, F2, e, c1, c2⟩ := c.unappend l
  obtain ⟨F3, s, c3⟩ := c2.wk w
  subst e
  exact ⟨G, F1 ++ F3, f.less (List.Sublist.append_left s F1), c1.append c3⟩

/-! ### the rule -/
/-- elements and tests by their mirrors -/
def XEm (X : Cx) {ω : Type} (e : Expr) (ρ : Cl) (m : Option ω) (N : ω → Cl) (B : ω → OA) : Prop := ∀ o, m = some o → XE X e ρ (N o) (B o)
def XTm (X : Cx) (e : Expr) (ρ : Cl) (m : Option Bool) : Prop := ∀ k, m = some k → XT X e ρ ρ k
section
variable {X : Cx} {ρ ρ1 : Cl} {e tg iter elt c : Expr} {pos p : Pos} {ω α β δ : Type} {N : ω → Cl} {B : ω → OA}
theorem xem_bind {κ : Type} {m1 : Option κ} {k : κ → Option ω} (h : ∀ x, m1 = some x → XEm X e ρ (k x) N B) : XEm X e ρ (m1.bind k) N B := fun o ho => by
  cases hm : m1 with
  | none => rw [hm] at ho; cases ho
  | some x => rw [hm] at ho; exact h x hm o ho
theorem xem_lett {κ : Type} {v : κ} {k : κ → Option ω} (h : ∀ x, v = x → XEm X e ρ (k x) N B) : XEm X e ρ (lett v k) N B := h v rfl
theorem xem_some {o : ω} (h : XE X e ρ (N o) (B o)) : XEm X e ρ (some o) N B := fun _ ho => by cases ho; exact h
theorem xtm_bind {κ : Type} {m1 : Option κ} {k : κ → Option Bool} (h : ∀ x, m1 = some x → XTm X e ρ (k x)) : XTm X e ρ (m1.bind k) := fun o ho => by
  cases hm : m1 with
  | none => rw [hm] at ho; cases ho
  | some x => rw [hm] at ho; exact h x hm o ho
theorem xtm_lett {κ : Type} {v : κ} {k : κ → Option Bool} (h : ∀ x, v = x → XTm X e ρ (k x)) : XTm X e ρ (lett v k) := h v rfl
theorem xtm_some {k : Bool} (h : XT X e ρ ρ k) : XTm X e ρ (some k) := fun _ ho => by cases ho; exact h

theorem Wk.refl : ∀ ρ : Cl, Wk ρ ρ
  | [] => trivial
  | none :: l => Wk.refl l
  | some _ :: l => ⟨rfl, Wk.refl l⟩
abbrev blkX (X : Cx) (scope : Scope) (s0 : Shared) (H0 : Hp) (C : Addr) (cl : List (Str × Addr)) (fp : List Addr) : Cx := X.blk s0 H0 scope (compEnvC scope cl C X.env) fp
/-- the loop of a comprehension with one name as its target -/
theorem lc_core1 {Ok : Cl → Prop} {xs : List α} {cv : α → OA} {N : β → Cl} {tb : β → α → Option Bool} {fe : β → α → Option (δ × β)} {s0 : β} {el : δ → OA} {i : Nat} {E E' : Ent} {T : Cl} {t σ : L2.St} {H1 : Hp} {D : Addr} {J : It} {tt : TT} {te : TE} {Qd : Hp → Prop} {r : List δ × β}
    (l : T.length = t.length) (hr : compG tb fe xs s0 [] = some r) (hz : xs.length ≤ 1000000) (hD : H1 D = none) (st : ST E' (T ++ ρ1) (t ++ σ) H1) (gv : Gives J E' Ok xs cv) (hw : Wk (ρ1.set i none) (N s0)) (hok : ∀ s, Ok (N s)) (hN : ∀ s, (N s)[i]? = some none)
    (ht : ∀ x s k, tb s x = some k → ∀ (T : Cl) (t σ : L2.St) (H : Hp), T.length = t.length → ST E' (T ++ (N s).set i (some (cv x))) (t ++ σ) H → ∀ Q : Bool → Hp → Prop, (∀ H', ST E' (T ++ (N s).set i (some (cv x))) (t ++ σ) H' → Q k H') → tt σ H Q)
    (he : ∀ x s y s', fe s x = some (y, s') → ∃ ρ2, Wk (ρ2.set i none) (N s') ∧ ∀ (T : Cl) (t σ : L2.St) (H : Hp), T.length = t.length → ST E' (T ++ (N s).set i (some (cv x))) (t ++ σ) H → ∀ Q : VK, (∀ v H', ST E' (some (el y) :: (T ++ ρ2)) (some v :: (t ++ σ)) H' → Q v H') → te σ H Q)
    (hd : ∀ H', ST E' (some (pin (.ref D) (aL (r.1.map el))) :: (T ++ N r.2)) (some (.ref D) :: (t ++ σ.set i none)) H' → Qd H') :
    ∃ W : Nat → Nat → Hp → Prop, (∃ m, W 0 m (upd H1 D (.lst []))) ∧ ∀ n m H, W n m H →
      (J.stop n H ∧ Qd H) ∨ (J.go n H ∧ ∃ Nx : Hp → Prop, (∀ H', Nx H' → ∃ m', m' < m ∧ W (n + 1) m' H') ∧ ∀ x H', J.yld n H x H' → gName i x (wipe σ [i]) H' fun σ2 H2 => wipe σ2 [i] = wipe σ [i] ∧ tt σ2 H2 fun b H3 =>
        if b = true then te σ2 H3 fun y H4 => ∃ acc, H4 D = some (.lst acc) ∧ acc.length < sizeLine ∧ Nx (upd H4 D (.lst (acc ++ [y]))) else Nx H3) := by
  refine ⟨fun n m H => m = xs.length - n ∧ n ≤ xs.length ∧ ∃ s acc, acc.length ≤ n ∧ compG tb fe (xs.drop n) s acc = some r ∧ ST E' (some (pin (.ref D) (aL (acc.map el))) :: (T ++ N s)) (some (.ref D) :: (t ++ σ.set i none)) H, ⟨xs.length, by simp, Nat.zero_le _, s0, [], Nat.le_refl _, by simpa using hr, ?_⟩, ?_⟩
  · obtain ⟨G, F, f, c⟩ := st
    obtain ⟨f1, keep⟩ := f.step (Fa := []) (Fr := F) (by simp) (Frm.alloc (o := .lst []) f.gh hD)
    have c1 := c.mono (.refl _) f1.gh keep
    obtain ⟨F', s, c2⟩ := c1.forgetT (x := none) (i := i) l
    obtain ⟨F1, F2, e, c3, c4⟩ := c2.unappend l
    obtain ⟨F3, s3, c5⟩ := c4.wk hw
    subst e
    refine ⟨G, [D] ++ (F1 ++ F3), f1.less (List.Sublist.append_left ((List.Sublist.append_left s3 F1).trans s) [D]), .ref D, [D], F1 ++ F3, rfl, rfl, ⟨rfl, D, [], [], rfl, rfl, upd_same, rfl⟩, c3.append c5⟩
  · rintro n m H ⟨rfl, hn, s, acc, hacc, hf, st⟩
    have l' : (some (pin (V.ref D) (aL (acc.map el))) :: T).length = (some (V.ref D) :: t).length := by simp [l]
    by_cases hlt : n < xs.length
    · have ed : xs.drop n = xs[n] :: xs.drop (n + 1) := List.drop_eq_getElem_cons hlt
      rw [ed] at hf
      have hf : ((tb s xs[n]).bind fun b => if b = true then (fe s xs[n]).bind fun o => compG tb fe (xs.drop (n + 1)) o.2 (acc ++ [o.1]) else compG tb fe (xs.drop (n + 1)) s acc) = some r := hf
      refine .inr ⟨gv.go n hlt (_ :: T) (_ :: t) _ _ _ l' (hok s) st, fun H' => ∃ s' acc', acc'.length ≤ n + 1 ∧ compG tb fe (xs.drop (n + 1)) s' acc' = some r ∧ ST E' (some (pin (.ref D) (aL (acc'.map el))) :: (T ++ N s')) (some (.ref D) :: (t ++ σ.set i none)) H',
        fun H' ⟨s', acc', q0, q1, q2⟩ => ⟨xs.length - (n + 1), by omega, rfl, hlt, s', acc', q0, q1, q2⟩, fun v H' y => ?_⟩
      have st1 := gv.yld n xs[n] v H H' (List.getElem?_eq_getElem hlt) (_ :: T) (_ :: t) _ _ l' (hok s) st y
      have st2 := ST.assignT (i := i) l' st1 (lt_of_get (hN s))
      show wipe ((wipe σ [i]).set i (some v)) [i] = wipe σ [i] ∧ _
      have ew : wipe σ [i] = σ.set i none := rfl
      refine ⟨by rw [ew]; show ((σ.set i none).set i (some v)).set i none = σ.set i none; rw [set_set, set_set], ?_⟩
      rw [ew]
      cases hb : tb s xs[n] with
      | none => rw [hb] at hf; cases hf
      | some b =>
        rw [hb] at hf
        refine ht xs[n] s b hb (_ :: T) (_ :: t) _ H' l' st2 _ fun H2 st3 => ?_
        have back : ∀ {s' : β} {acc' : List δ} {ρ2 : Cl} {H' : Hp}, Wk (ρ2.set i none) (N s') → ST E' (some (pin (.ref D) (aL (acc'.map el))) :: (T ++ ρ2)) (some (.ref D) :: (t ++ (σ.set i none).set i (some v))) H' → ST E' (some (pin (.ref D) (aL (acc'.map el))) :: (T ++ N s')) (some (.ref D) :: (t ++ σ.set i none)) H' := fun {s' acc' ρ2 H'} hw st => by
          obtain ⟨G, F, f, c⟩ := st
          obtain ⟨F', s, c2⟩ := Cs.forgetT (T := some (pin (.ref D) (aL (acc'.map el))) :: T) (t := some (.ref D) :: t) (x := none) (i := i) (by simp [l]) c
          rw [set_set, set_set] at c2
          exact ST.wkT (T := some (pin (.ref D) (aL (acc'.map el))) :: T) (t := some (.ref D) :: t) (by simp [l]) ⟨G, F', f.less s, c2⟩ hw
        cases b with
        | false =>
          have hf : compG tb fe (xs.drop (n + 1)) s acc = some r := hf
          refine ⟨s, acc, by omega, hf, ?_⟩
          exact back (by rw [set_set, set_get (hN s)]; exact Wk.refl _) st3
        | true =>
          have hf : ((fe s xs[n]).bind fun o => compG tb fe (xs.drop (n + 1)) o.2 (acc ++ [o.1])) = some r := hf
          cases hfe : fe s xs[n] with
          | none => rw [hfe] at hf; cases hf
          | some o =>
            obtain ⟨y, s'⟩ := o
            rw [hfe] at hf
            have hf : compG tb fe (xs.drop (n + 1)) s' (acc ++ [y]) = some r := hf
            obtain ⟨ρ2, hwk, hel⟩ := he xs[n] s y s' hfe
            refine hel (_ :: T) (_ :: t) _ H2 l' st3 _ fun yv H3 st4 => ?_
            obtain ⟨p, vs, e1, h2, hl, go⟩ := ST.modL (T := []) (t := []) (i := 0) rfl st4 rfl
            cases e1
            have hsz : vs.length < sizeLine := by
              rw [hl, List.length_map]
              exact Nat.lt_of_le_of_lt hacc (Nat.lt_of_lt_of_le hlt (Nat.le_trans hz (by decide)))
            refine ⟨vs, h2, hsz, s', acc ++ [y], by simp; omega, hf, back hwk ?_⟩
            have st5 := go ((acc ++ [y]).map el) (vs ++ [yv]) fun G H F1 F2 c q => ⟨F1 ++ F2, fun b hb => hb, fun n => n, by simpa using c.append (Cs.ofNil q)⟩
            exact st5
    · have e : n = xs.length := by omega
      subst e
      rw [List.drop_length] at hf
      cases hf
      exact .inl ⟨gv.stop (_ :: T) (_ :: t) _ _ _ l' (hok s) st, hd H st⟩
theorem lc_fin {E E' : Ent} {T ρ2 : Cl} {t σ : L2.St} {H : Hp} {D : Addr} {A : OA} {i : Nat} (l : T.length = t.length) (lt : Later E' E) (hi : ρ2[i]? = some none) (st : ST E' (some (pin (.ref D) A) :: (T ++ ρ2)) (some (.ref D) :: (t ++ σ.set i none)) H) : ST E (some A :: (T ++ ρ2)) (some (.ref D) :: (t ++ σ)) H := by
  refine lt _ _ _ ?_
  obtain ⟨G, F, f, v, F1, F2, e1, e2, ⟨_, a⟩, c⟩ := st
  cases e1
  exact ⟨G, F, f, _, F1, F2, rfl, e2, a, c.freeT l hi⟩
theorem mapO_eq {f : α → Option δ} {xs : List α} {ys : List δ} (h : mapO f xs = some ys) : xs.length ≤ 1000000 ∧ mapL f xs = some ys := by
  unfold mapO at h
  split at h
  · exact ⟨by assumption, h⟩
  · cases h
theorem fltO_eq {t : α → Option Bool} {f : α → Option δ} {xs : List α} {ys : List δ} (h : fltO t f xs = some ys) : xs.length ≤ 1000000 ∧ fltL t f xs = some ys := by
  unfold fltO at h
  split at h
  · exact ⟨by assumption, h⟩
  · cases h
theorem mapS_eq {f : β → α → Option (δ × β)} {xs : List α} {s : β} {r : List δ × β} (h : mapS f xs s = some r) : xs.length ≤ 1000000 ∧ mapT f xs s = some r := by
  unfold mapS at h
  split at h
  · exact ⟨by assumption, h⟩
  · cases h
def wEc (X : Cx) (scope : Scope) (e : Expr) : TE := fun σ H Q => ∀ s0 H0 C cl fp, wE (blkX X scope s0 H0 C cl fp) e σ H Q
def wTc (X : Cx) (scope : Scope) (e : Expr) : TT := fun σ H Q => ∀ s0 H0 C cl fp, wT (blkX X scope s0 H0 C cl fp) e σ H Q
variable {scope : Scope} {x : Str}
/-- the comprehension's value and what it leaves: for both of its rules -/
def XC (X : Cx) (x : Str) (p : Pos) (i : Nat) (elt iter : Expr) (ifs : List Expr) (scope : Scope) (ρ ρ' : Cl) (A : OA) : Prop := ∃ (tt : TT) (te : TE), (∀ s0 H0 C cl fp, PTs (blkX X scope s0 H0 C cl fp) ifs tt) ∧ (∀ s0 H0 C cl fp, PE (blkX X scope s0 H0 C cl fp) elt te) ∧
  ∀ (E : Ent) (T : Cl) (t σ : L2.St) (H : Hp), T.length = t.length → ST E (T ++ ρ) (t ++ σ) H → ∀ Q : VK, (∀ v H', ST E (some A :: (T ++ ρ')) (some v :: (t ++ σ)) H' → Q v H') → tLc (wI X (.Name x p) iter) (gName i) tt te [i] σ H Q
theorem xe_lc {i : Nat} {ρ' : Cl} {A : OA} {ifs : List Expr} (h : XC X x p i elt iter ifs scope ρ ρ' A) (hc : X.calm = true) (hN : X.N.Nodup) (ok : BlkOk X.N X.env.scope scope [(x, i)]) (hg : ∀ s0 H0 C cl fp, PG (blkX X scope s0 H0 C cl fp) (.Name x p) (gName i)) (hs : ∀ x, foldedSetIterable iter X.env x = pure x := by intro _; rfl) :
    XE X (.ListComp elt [⟨.Name x p, iter, ifs, 0⟩] scope pos) ρ ρ' A := fun E T t σ H l st Q k => by
  obtain ⟨tt, te, h1, h2, h3⟩ := h
  exact wE.of (pe_lc (own := [(x, i)]) (g := gName i) hc hN piS ok hg h1 h2 hs) (h3 E T t σ H l st Q k)
/-- y = [..] on one line -/
theorem xg_asgLc {i j : Nat} {ρ' : Cl} {A : OA} {ifs : List Expr} {y : Str} {py spos : Pos} {ω : Type} {rest : List Stmt} {m : Option ω} {Φ : ω → Ent → Ends → Prop} (h : XC X x p i elt iter ifs scope ρ ρ' A) (hy : X.N[j]? = some y) (hyl : X.env.scope.names.lookup y = some .local)
    (hsw : swapsWith (.ListComp elt [⟨.Name x p, iter, ifs, 0⟩] scope pos) (some (.Name y py)) spos.line X.env = pure true) (k : XG X rest (ρ'.set j (some A)) m Φ) (hl : j < ρ'.length) (hc : X.calm = true) (hN : X.N.Nodup) (ok : BlkOk X.N X.env.scope scope [(x, i)]) (hg : ∀ s0 H0 C cl fp, PG (blkX X scope s0 H0 C cl fp) (.Name x p) (gName i)) (hs : ∀ x, foldedSetIterable iter X.env x = pure x := by intro _; rfl) :
    XG X (.Assign [.Name y py] (.ListComp elt [⟨.Name x p, iter, ifs, 0⟩] scope pos) spos :: rest) ρ m Φ := fun o ho E σ H D st q => by
  obtain ⟨tt, te, h1, h2, h3⟩ := h
  exact wS.of (pss_cons (ps_setLc (own := [(x, i)]) (g := gName i) hc hN hy hyl hsw piS ok hg h1 h2 hs) pssS) (h3 E [] [] σ H rfl st _ fun v H' st1 => k o ho E _ H' D (ST.assign st1 hl) q)
theorem xg_asgLcP {i j : Nat} {ρ' : Cl} {A : OA} {ifs : List Expr} {y : Str} {py spos : Pos} {ω : Type} {rest : List Stmt} {m : Option ω} {Φ : ω → Ent → Ends → Prop} (h : XC X x p i elt iter ifs scope ρ ρ' A) (hy : X.N[j]? = some y) (hyl : X.env.scope.names.lookup y = some .local)
    (hsw : swapsWith (.ListComp elt [⟨.Name x p, iter, ifs, 0⟩] scope pos) (some (.Name y py)) spos.line X.env = pure true) (k : ∀ v, XG X rest (ρ'.set j (some (pin v A))) m Φ) (hl : j < ρ'.length) (hc : X.calm = true) (hN : X.N.Nodup) (ok : BlkOk X.N X.env.scope scope [(x, i)]) (hg : ∀ s0 H0 C cl fp, PG (blkX X scope s0 H0 C cl fp) (.Name x p) (gName i)) (hs : ∀ x, foldedSetIterable iter X.env x = pure x := by intro _; rfl) :
    XG X (.Assign [.Name y py] (.ListComp elt [⟨.Name x p, iter, ifs, 0⟩] scope pos) spos :: rest) ρ m Φ :=
  xg_asgLc h hy hyl hsw (xg_pin j (List.getElem?_set_self hl) fun v => by rw [set_set]; exact k v) hl hc hN ok hg hs
theorem xc_imp {i : Nat} {ρ' : Cl} {A B : OA} {ifs : List Expr} (h : XC X x p i elt iter ifs scope ρ ρ' A) (e : A = B) : XC X x p i elt iter ifs scope ρ ρ' B := e ▸ h
theorem xc_frz {i : Nat} {ρ' : Cl} {ds : List PyData} {ifs : List Expr} (h : XC X x p i elt iter ifs scope ρ ρ' (aLD X.K ds)) : XC X x p i elt iter ifs scope ρ ρ' (aD X.K (.list ds)) := by
  obtain ⟨tt, te, h1, h2, h3⟩ := h
  refine ⟨tt, te, h1, h2, fun E T t σ H l st Q k => h3 E T t σ H l st Q fun v H' st1 => ?_⟩
  obtain ⟨G, F, f, w, F1, F2, e1, e2, ⟨p, vs, F', e3, e4, h1, c1⟩, cs⟩ := st1
  obtain ⟨q1, q2⟩ := csD c1
  cases e1
  subst e2 e3 e4 q2
  have g : G p = none := f.dis p (by simp)
  obtain ⟨f1, st⟩ := f.step (Fa := [p]) (Fr := F2) (by simp) (Frm.freeze f.gh g h1)
  exact k _ _ ⟨_, _, f1, .ref p, [], F2, rfl, rfl, ⟨.lst upd_same (DqAll.mono (.new g) _ _ q1), rfl⟩, by simpa using cs.mono (.new g) f1.gh st⟩
/-- [elt for x in iter], nothing is changed by it -/
theorem xc_mapO (i : Nat) {Ok : Cl → Prop} {xs : List α} {cv : α → OA} {f : α → Option δ} {el : δ → OA} {ys : List δ} (hm : mapO f xs = some ys) (hx : XI X (.Name x p) iter ρ ρ1 Ok xs cv) (hok : Ok (ρ1.set i none)) (hl : i < ρ1.length)
    (he : ∀ s0 H0 C cl fp x, XEm (blkX X scope s0 H0 C cl fp) elt (ρ1.set i (some (cv x))) (f x) (fun _ => ρ1.set i (some (cv x))) el) :
    XC X x p i elt iter [] scope ρ (ρ1.set i none) (aL (ys.map el)) := by
  refine ⟨tYes, wEc X scope elt, fun _ _ _ _ _ => pts_nil, fun s0 H0 C cl fp => ⟨fun pins s σ H Q I h => h s0 H0 C cl fp pins s I⟩, fun E T t σ H l st Q k => ?_⟩
  obtain ⟨hz, hm1⟩ := mapO_eq hm
  have hfree : (ρ1.set i none)[i]? = some none := List.getElem?_set_self hl
  refine hx E T t σ H l st _ fun J E' H' lt st' gv => ?_
  intro D hD
  exact lc_core1 (te := wEc X scope elt) (tt := tYes) (ρ1 := ρ1) (N := fun _ : Unit => ρ1.set i none) (el := el) (i := i) (E := E) l (compG_map hm1) hz hD st' gv (Wk.refl _) (fun _ => hok) (fun _ => hfree)
    (fun x s k hk T t σ H l st Q q => by cases hk; exact q H st)
    (fun x s y s' hf => by
      cases hfx : f x with
      | none => rw [hfx] at hf; cases hf
      | some y0 =>
        rw [hfx] at hf
        cases hf
        refine ⟨(ρ1.set i none).set i (some (cv x)), by rw [set_set, set_set]; exact Wk.refl _, fun T t σ H l st Q q s0 H0 C cl fp => ?_⟩
        rw [set_set] at st q
        exact he s0 H0 C cl fp x y hfx E' T t σ H l st Q q)
    fun H2 st2 => k _ _ (lc_fin l lt hfree st2)
/-- [elt for x in iter if c] -/
theorem xc_fltO (i : Nat) {Ok : Cl → Prop} {xs : List α} {cv : α → OA} {tb : α → Option Bool} {f : α → Option δ} {el : δ → OA} {ys : List δ} (hm : fltO tb f xs = some ys) (hx : XI X (.Name x p) iter ρ ρ1 Ok xs cv) (hok : Ok (ρ1.set i none)) (hl : i < ρ1.length)
    (ht : ∀ s0 H0 C cl fp x, XTm (blkX X scope s0 H0 C cl fp) c (ρ1.set i (some (cv x))) (tb x))
    (he : ∀ s0 H0 C cl fp x, XEm (blkX X scope s0 H0 C cl fp) elt (ρ1.set i (some (cv x))) (f x) (fun _ => ρ1.set i (some (cv x))) el) :
    XC X x p i elt iter [c] scope ρ (ρ1.set i none) (aL (ys.map el)) := by
  refine ⟨wTc X scope c, wEc X scope elt, fun s0 H0 C cl fp => pts_one ⟨fun pins s σ H Q I h => h s0 H0 C cl fp pins s I⟩, fun s0 H0 C cl fp => ⟨fun pins s σ H Q I h => h s0 H0 C cl fp pins s I⟩, fun E T t σ H l st Q k => ?_⟩
  obtain ⟨hz, hm1⟩ := fltO_eq hm
  have hfree : (ρ1.set i none)[i]? = some none := List.getElem?_set_self hl
  refine hx E T t σ H l st _ fun J E' H' lt st' gv => ?_
  intro D hD
  exact lc_core1 (te := wEc X scope elt) (tt := wTc X scope c) (ρ1 := ρ1) (N := fun _ : Unit => ρ1.set i none) (el := el) (i := i) (E := E) l (compG_flt hm1) hz hD st' gv (Wk.refl _) (fun _ => hok) (fun _ => hfree)
    (fun x s k hk T t σ H l st Q q s0 H0 C cl fp => by
      rw [set_set] at st q
      exact ht s0 H0 C cl fp x k hk E' T t σ H l st Q q)
    (fun x s y s' hf => by
      cases hfx : f x with
      | none => rw [hfx] at hf; cases hf
      | some y0 =>
        rw [hfx] at hf
        cases hf
        refine ⟨(ρ1.set i none).set i (some (cv x)), by rw [set_set, set_set]; exact Wk.refl _, fun T t σ H l st Q q s0 H0 C cl fp => ?_⟩
        rw [set_set] at st q
        exact he s0 H0 C cl fp x y hfx E' T t σ H l st Q q)
    fun H2 st2 => k _ _ (lc_fin l lt hfree st2)
/-- [elt for x in iter], owned things are changed by it: N -/
theorem xc_mapS (i : Nat) {Ok : Cl → Prop} {xs : List α} {cv : α → OA} {f : β → α → Option (δ × β)} {N : β → Cl} {N2 : α → δ × β → Cl} {s0 : β} {el : δ → OA} {r : List δ × β} (hm : mapS f xs s0 = some r) (hx : XI X (.Name x p) iter ρ ρ1 Ok xs cv)
    (hw : Wk (ρ1.set i none) (N s0)) (hok : ∀ s, Ok (N s)) (hf0 : ∀ s, (N s)[i]? = some none)
    (he : ∀ s0 H0 C cl fp x s, XEm (blkX X scope s0 H0 C cl fp) elt ((N s).set i (some (cv x))) (f s x) (N2 x) (fun o => el o.1)) (hw2 : ∀ x o, Wk ((N2 x o).set i none) (N o.2)) :
    XC X x p i elt iter [] scope ρ (N r.2) (aL (r.1.map el)) := by
  refine ⟨tYes, wEc X scope elt, fun _ _ _ _ _ => pts_nil, fun s0 H0 C cl fp => ⟨fun pins s σ H Q I h => h s0 H0 C cl fp pins s I⟩, fun E T t σ H l st Q k => ?_⟩
  obtain ⟨hz, hm1⟩ := mapS_eq hm
  refine hx E T t σ H l st _ fun J E' H' lt st' gv => ?_
  intro D hD
  exact lc_core1 (te := wEc X scope elt) (tt := tYes) (ρ1 := ρ1) (N := N) (el := el) (i := i) (E := E) l (compG_mapT hm1) hz hD st' gv hw hok hf0
    (fun x s k hk T t σ H l st Q q => by cases hk; exact q H st)
    (fun x s y s' hf => ⟨N2 x (y, s'), hw2 x (y, s'), fun T t σ H l st Q q s0 H0 C cl fp => he s0 H0 C cl fp x s (y, s') hf E' T t σ H l st Q q⟩)
    fun H2 st2 => k _ _ (lc_fin l lt (hf0 _) st2)
end
end Mr

set_option Elab.async false
set_option linter.all false
set_option maxRecDepth 100000
namespace Mr
open PySem PySem.Spec PyProof.Rows L2

/-! ### typed data -/
class Cd (α : Type) where
  d : α → PyData
  dep : Nat
  can : ∀ x, (d x).canLay0 = true
  hdep : ∀ x, (d x).depth ≤ dep
class Ce (α : Type) [Cd α] [DecidableEq α] where
  eqv : ∀ x y : α, PyData.eqv (Cd.d x) (Cd.d y) = decide (x = y)
/-- never None -/
class Cn (α : Type) [Cd α] where
  nn : ∀ x : α, isN (Cd.d x) = false
theorem Cd.shp {α : Type} [Cd α] (x : α) (h : Cd.dep α ≤ 64 := by decide) : SeqAt.shaped (Cd.d x) = true := by
  unfold SeqAt.shaped
  rw [Cd.can x, decide_eq_true (Nat.le_trans (Cd.hdep x) h)]
  rfl
structure T3 (α β γ : Type) where
  a : α
  b : β
  c : γ
  deriving DecidableEq
structure T4 (α β γ δ : Type) where
  a : α
  b : β
  c : γ
  d : δ
  deriving DecidableEq
/-- a text that may be compared -/
abbrev Wd := { x : Str // PyData.strOk x = true }
instance : Cd Int := ⟨.int, 0, fun _ => by simp [PyData.canLay0], fun _ => by simp [PyData.depth]⟩
instance : Cd Bool := ⟨.bool, 0, fun _ => by simp [PyData.canLay0], fun _ => by simp [PyData.depth]⟩
instance : Cd Wd := ⟨fun x => .str x.1, 0, fun x => by simp [PyData.canLay0, x.2], fun _ => by simp [PyData.depth]⟩
instance : Cd Unit := ⟨fun _ => .none, 0, fun _ => by simp [PyData.canLay0], fun _ => by simp [PyData.depth]⟩
theorem can_all {α : Type} [Cd α] : ∀ xs : List α, PyData.canLayAll0 (xs.map Cd.d) = true
  | [] => by simp [PyData.canLayAll0]
  | x :: xs => by simp [PyData.canLayAll0, Cd.can x, can_all xs]
theorem dep_all {α : Type} [Cd α] : ∀ xs : List α, PyData.depthAll (xs.map Cd.d) ≤ Cd.dep α
  | [] => by simp [PyData.depthAll]
  | x :: xs => by
    have h1 := Cd.hdep x
    have h2 := dep_all xs
    simp only [List.map_cons, PyData.depthAll]
    omega
instance {α : Type} [Cd α] : Cd (List α) := ⟨fun xs => .list (xs.map Cd.d), Cd.dep α + 1, fun xs => by simp [PyData.canLay0, can_all], fun xs => by
  have := dep_all xs
  simp only [PyData.depth]
  omega⟩
instance {α : Type} [Cd α] : Cd (Option α) := ⟨fun o => match o with | none => .none | some x => Cd.d x, Cd.dep α, fun o => by cases o; simp [PyData.canLay0]; exact Cd.can _, fun o => by cases o; simp [PyData.depth]; exact Cd.hdep _⟩
instance {α β : Type} [Cd α] [Cd β] : Cd (α × β) := ⟨fun p => .tuple [Cd.d p.1, Cd.d p.2], max (Cd.dep α) (Cd.dep β) + 1, fun p => by simp [PyData.canLay0, PyData.canLayAll0, Cd.can], fun p => by
  have h1 := Cd.hdep p.1
  have h2 := Cd.hdep p.2
  simp only [PyData.depth, PyData.depthAll]
  omega⟩
instance {α β γ : Type} [Cd α] [Cd β] [Cd γ] : Cd (T3 α β γ) := ⟨fun p => .tuple [Cd.d p.a, Cd.d p.b, Cd.d p.c], max (Cd.dep α) (max (Cd.dep β) (Cd.dep γ)) + 1, fun p => by simp [PyData.canLay0, PyData.canLayAll0, Cd.can], fun p => by
  have h1 := Cd.hdep p.a
  have h2 := Cd.hdep p.b
  have h3 := Cd.hdep p.c
  simp only [PyData.depth, PyData.depthAll]
  omega⟩
instance {α β γ δ : Type} [Cd α] [Cd β] [Cd γ] [Cd δ] : Cd (T4 α β γ δ) := ⟨fun p => .tuple [Cd.d p.a, Cd.d p.b, Cd.d p.c, Cd.d p.d], max (Cd.dep α) (max (Cd.dep β) (max (Cd.dep γ) (Cd.dep δ))) + 1, fun p => by simp [PyData.canLay0, PyData.canLayAll0, Cd.can], fun p => by
  have h1 := Cd.hdep p.a
  have h2 := Cd.hdep p.b
  have h3 := Cd.hdep p.c
  have h4 := Cd.hdep p.d
  simp only [PyData.depth, PyData.depthAll]
  omega⟩
instance : Cn Int := ⟨fun _ => rfl⟩
instance : Cn Bool := ⟨fun _ => rfl⟩
instance : Cn Wd := ⟨fun _ => rfl⟩
instance {α : Type} [Cd α] : Cn (List α) := ⟨fun _ => rfl⟩
instance {α β : Type} [Cd α] [Cd β] : Cn (α × β) := ⟨fun _ => rfl⟩
instance {α β γ : Type} [Cd α] [Cd β] [Cd γ] : Cn (T3 α β γ) := ⟨fun _ => rfl⟩
instance {α β γ δ : Type} [Cd α] [Cd β] [Cd γ] [Cd δ] : Cn (T4 α β γ δ) := ⟨fun _ => rfl⟩
instance : Ce Int := ⟨fun x y => by show (x == y) = _; rw [Bool.beq_eq_decide_eq]⟩
instance : Ce Bool := ⟨fun x y => by show (x == y) = _; rw [Bool.beq_eq_decide_eq]⟩
theorem beq_dec {α : Type} [DecidableEq α] (x y : α) (h : ∀ x y : α, (x == y) = decide (x = y)) : (x == y) = decide (x = y) := h x y
instance : Ce Unit := ⟨fun x y => by cases x; cases y; rfl⟩
theorem eqv_all {α : Type} [Cd α] [DecidableEq α] [Ce α] : ∀ xs ys : List α, PyData.eqvAll (xs.map Cd.d) (ys.map Cd.d) = decide (xs = ys)
  | [], [] => by simp [PyData.eqvAll]
  | [], _ :: _ => by simp [PyData.eqvAll]
  | _ :: _, [] => by simp [PyData.eqvAll]
  | x :: xs, y :: ys => by
    simp only [List.map_cons, PyData.eqvAll, Ce.eqv, eqv_all xs ys, List.cons.injEq, Bool.decide_and]
instance {α : Type} [Cd α] [DecidableEq α] [Ce α] : Ce (List α) := ⟨fun xs ys => by
  show PyData.eqv (.list _) (.list _) = _
  rw [PyData.eqv]
  exact eqv_all xs ys⟩
theorem eqv_non_l {d : PyData} (h : isN d = false) : PyData.eqv .none d = false := by
  cases d <;> first | rfl | (cases h) | simp [PyData.eqv]
theorem eqv_non_r {d : PyData} (h : isN d = false) : PyData.eqv d .none = false := by
  cases d <;> first | rfl | (cases h) | simp [PyData.eqv]
instance {α : Type} [Cd α] [DecidableEq α] [Ce α] [Cn α] : Ce (Option α) := ⟨fun x y => by
  cases x with
  | none =>
    cases y with
    | none => simp [Cd.d, PyData.eqv]
    | some y => 
      show PyData.eqv .none (Cd.d y) = _
      rw [eqv_non_l (Cn.nn y)]
      simp
  | some x =>
    cases y with
    | none =>
      show PyData.eqv (Cd.d x) .none = _
      rw [eqv_non_r (Cn.nn x)]
      simp
    | some y =>
      show PyData.eqv (Cd.d x) (Cd.d y) = _
      rw [Ce.eqv]
      simp⟩
instance {α β : Type} [Cd α] [Cd β] [DecidableEq α] [DecidableEq β] [Ce α] [Ce β] : Ce (α × β) := ⟨fun x y => by
  show PyData.eqv (.tuple _) (.tuple _) = _
  obtain ⟨x1, x2⟩ := x
  obtain ⟨y1, y2⟩ := y
  simp [PyData.eqv, PyData.eqvAll, Ce.eqv, Prod.mk.injEq]⟩
instance {α β γ : Type} [Cd α] [Cd β] [Cd γ] [DecidableEq α] [DecidableEq β] [DecidableEq γ] [Ce α] [Ce β] [Ce γ] : Ce (T3 α β γ) := ⟨fun x y => by
  show PyData.eqv (.tuple _) (.tuple _) = _
  obtain ⟨x1, x2, x3⟩ := x
  obtain ⟨y1, y2, y3⟩ := y
  simp [PyData.eqv, PyData.eqvAll, Ce.eqv, T3.mk.injEq]⟩
instance {α β γ δ : Type} [Cd α] [Cd β] [Cd γ] [Cd δ] [DecidableEq α] [DecidableEq β] [DecidableEq γ] [DecidableEq δ] [Ce α] [Ce β] [Ce γ] [Ce δ] : Ce (T4 α β γ δ) := ⟨fun x y => by
  show PyData.eqv (.tuple _) (.tuple _) = _
  obtain ⟨x1, x2, x3, x4⟩ := x
  obtain ⟨y1, y2, y3, y4⟩ := y
  simp [PyData.eqv, PyData.eqvAll, Ce.eqv, T4.mk.injEq]⟩
instance : Ce Wd := ⟨fun x y => by
  show PyData.eqv (.str x.1) (.str y.1) = _
  simp only [PyData.eqv]
  rw [Bool.eq_iff_iff]
  simp [Subtype.ext_iff]⟩
section
variable {X : Cx} {ρ ρ1 ρ2 ρ3 : Cl} {a b c e : Expr} {pos : Pos} {A B : OA} {α : Type} [Cd α]
theorem atI_map {α β : Type} {f : α → β} {xs : List α} {i : Int} {x : α} (h : atI xs i = some x) : atI (xs.map f) i = some (f x) := by
  unfold atI at h ⊢
  rw [List.length_map]
  cases hk : ixN xs.length i with
  | none => rw [hk] at h; cases h
  | some j =>
    rw [hk] at h
    show (xs.map f)[j]? = _
    have h : xs[j]? = some x := h
    rw [List.getElem?_map, h]
    rfl
theorem xc_ix {xs : List α} {i : Int} {x : α} (ha : XE X a ρ ρ1 A) (hb : XE X b ρ1 ρ2 (aD X.K (.int i))) (r : Rls X.K ρ2 A (xs.map Cd.d)) (h : atI xs i = some x) (hs : PlainIx b := by exact fun _ _ => rfl) : XE X (.Subscript a b pos) ρ ρ2 (aD X.K (Cd.d x)) := xe_ix ha hb r (atI_map h) hs
theorem xc_slice {lo hi : Option Expr} {i j : Option Int} {xs : List α} {p2 : Pos} (ha : XE X a ρ ρ1 A) (hl : XO X lo ρ1 ρ2 i) (hh : XO X hi ρ2 ρ3 j) (r : Rls X.K ρ3 A (xs.map Cd.d)) : XE X (.Subscript a (.Slice lo hi none p2) pos) ρ ρ3 (aLD X.K ((cutL xs i j).map Cd.d)) := by
  have q := xe_slice (p2 := p2) (pos := pos) ha hl hh r
  rwa [cutL_map] at q
theorem xc_cat {xs ys : List α} (ha : XE X a ρ ρ1 A) (hb : XE X b ρ1 ρ2 B) (ra : Rlm X.K ρ2 A (xs.map Cd.d)) (rb : Rlm X.K ρ2 B (ys.map Cd.d)) (hz : xs.length + ys.length ≤ sizeLine) : XE X (.BinOp a .Add b pos) ρ ρ2 (aLD X.K ((xs ++ ys).map Cd.d)) := by
  have q := xe_cat (pos := pos) ha hb ra rb (by simpa using hz)
  rwa [← List.map_append] at q
theorem xkc_eq [DecidableEq α] [Ce α] {x y : α} (hu : X.A.units + 64 < cLine) (ha : XE X a ρ ρ1 A) (hb : XE X b ρ1 ρ2 B) (ra : Rda X.K ρ2 A (Cd.d x)) (rb : Rda X.K ρ2 B (Cd.d y)) (hd : Cd.dep α ≤ 64 := by decide) : XKm X (.Compare a [.Eq] [b] pos) ρ ρ2 (decide (x = y)) := xk_eq hu ha hb ra rb (Cd.shp x hd) (Cd.shp y hd) (Ce.eqv x y)
theorem xkc_ne [DecidableEq α] [Ce α] {x y : α} (hu : X.A.units + 64 < cLine) (ha : XE X a ρ ρ1 A) (hb : XE X b ρ1 ρ2 B) (ra : Rda X.K ρ2 A (Cd.d x)) (rb : Rda X.K ρ2 B (Cd.d y)) (hd : Cd.dep α ≤ 64 := by decide) : XKm X (.Compare a [.NotEq] [b] pos) ρ ρ2 (!decide (x = y)) := xk_ne hu ha hb ra rb (Cd.shp x hd) (Cd.shp y hd) (Ce.eqv x y)
theorem aLD_map {K : PySem.W.Frag} {δ : Type} (cv : δ → PyData) (ys : List δ) : aL (ys.map fun y => aD K (cv y)) = aLD K (ys.map cv) := by
  unfold aLD
  rw [List.map_map]
  rfl
theorem isN_opt [Cn α] (o : Option α) : isN (Cd.d o) = o.isNone := by
  cases o with
  | none => rfl
  | some x => exact Cn.nn x
/-- an owned list is not changed from here on -/
theorem xg_freeze {ω : Type} {sts : List Stmt} {m : Option ω} {Φ : ω → Ent → Ends → Prop} {v : V} {ds : List PyData} (i : Nat) (h : ρ[i]? = some (some (pin v (aLD X.K ds)))) (k : XG X sts (ρ.set i (some (aD X.K (.list ds)))) m Φ) : XG X sts ρ m Φ := fun o ho E σ H D st q => by
  obtain ⟨G, F, f, c⟩ := st
  obtain ⟨w, F1, F2, e1, e2, ⟨e3, p, vs, F', e4, e5, h1, c1⟩, c2⟩ := Cs.slot (T := []) (t := []) rfl (by simpa using c) h
  obtain ⟨q1, q2⟩ := csD c1
  subst e3 e4 e5 q2
  have f0 := f.perm e2
  have g : G p = none := f0.dis p (by simp)
  obtain ⟨f1, st⟩ := f.step e2 (Frm.freeze f.gh g h1)
  obtain ⟨F3, e6, c3⟩ := Cs.back (T := []) (t := []) (A := aD X.K (.list ds)) (F1 := []) rfl (c2.mono (.new g) f1.gh st) (lt_of_get h) e1 ⟨.lst upd_same (DqAll.mono (.new g) _ _ q1), rfl⟩
  exact k o ho E σ H D ⟨_, F3, f1.perm e6.symm, by simpa using c3⟩ q
end
theorem wk_0 : Wk [] [] := trivial
theorem wk_n {a : Option OA} {l l' : Cl} (h : Wk l l') : Wk (a :: l) (none :: l') := by
  cases a <;> exact h
theorem wk_k {a : OA} {l l' : Cl} (h : Wk l l') : Wk (some a :: l) (some a :: l') := ⟨rfl, h⟩

/-! ### mirrors' guards -/
def mulM (i j : Int) : Option Int := if MulOk i j then some (i * j) else none
def divM (i j : Int) : Option Int := if DivOk j then some (i / j) else none
def modM (i j : Int) : Option Int := if 0 < j then some (i % j) else none
def guardO (p : Prop) [Decidable p] : Option Unit := if p then some () else none
theorem mulM_eq {i j k : Int} (h : mulM i j = some k) : MulOk i j ∧ i * j = k := by
  unfold mulM at h
  split at h
  · cases h; exact ⟨by assumption, rfl⟩
  · cases h
theorem divM_eq {i j k : Int} (h : divM i j = some k) : DivOk j ∧ i / j = k := by
  unfold divM at h
  split at h
  · cases h; exact ⟨by assumption, rfl⟩
  · cases h
theorem modM_eq {i j k : Int} (h : modM i j = some k) : 0 < j ∧ i % j = k := by
  unfold modM at h
  split at h
  · cases h; exact ⟨by assumption, rfl⟩
  · cases h
theorem guardO_eq {p : Prop} [Decidable p] {u : Unit} (h : guardO p = some u) : p := by
  unfold guardO at h
  split at h
  · assumption
  · cases h
theorem xe_isI {X : Cx} {a : Expr} {ρ ρ1 : Cl} {i j : Int} (h : XE X a ρ ρ1 (aD X.K (.int i))) (e : i = j) : XE X a ρ ρ1 (aD X.K (.int j)) := e ▸ h
end Mr

set_option Elab.async false
set_option linter.all false
set_option maxRecDepth 100000
namespace Mr
open PySem PySem.Spec PyProof.Rows L2

theorem sz_of {n : Nat} (h : n ≤ 1000000) : n ≤ sizeLine := Nat.le_trans h (by decide)
theorem sz_lt {n : Nat} (h : n < 1000000) : n < sizeLine := Nat.lt_of_lt_of_le h (by decide)
/-- a written tuple of ints of the module -/
def GTup (K : PySem.W.Frag) (mg : Str → Option Value) (x : Str) (ns : List Int) : Prop := ∃ a, mg x = some (.ref a) ∧ ∀ G : Hp, SqT K G a (ns.map V.int)
theorem GTup.mk' {K : PySem.W.Frag} {mg : Str → Option Value} {x : Str} {ns : List Int} {a : Addr} {od : Option Addr} {vs : Array Value} {n : Nat} {sl : Array (Option Value)} (h : mg x = some (.ref a)) (l : K.lookup a = some ⟨.type "tuple", od, .seq vs n, sl⟩) (hz : vs.size ≤ sizeLine) (r : Vals (ns.map V.int) vs.toList) : GTup K mg x ns :=
  ⟨a, h, fun G => .inr ⟨_, vs, n, l, rfl, rfl, hz, r⟩⟩
theorem dq_ints {K : PySem.W.Frag} {G : Hp} : ∀ ns : List Int, DqAll K G (ns.map V.int) (ns.map Cd.d)
  | [] => .nil
  | n :: ns => .cons (.int n) (dq_ints ns)
section
variable {X : Cx} {ρ ρ1 ρ2 ρ3 : Cl} {a b c e o : Expr} {pos p : Pos} {A B : OA} {α : Type} [Cd α]
theorem xe_gTup {x : Str} {ns : List Int} (h : GTup X.K X.mg x ns) (hg : Gl X x := by rfl) (hd : (x == ("__debug__" : Str)) = false := by decide) : XE X (.Name x pos) ρ ρ (aD X.K (.tuple (ns.map Cd.d))) := by
  obtain ⟨a, h1, h2⟩ := h
  exact xe_c (v := .ref a) (pe_glob hg h1 rfl hd) fun G => .tup (h2 G) (dq_ints ns)
theorem xc_ixT {xs : List α} {i : Int} {x : α} (ha : XE X a ρ ρ1 A) (hb : XE X b ρ1 ρ2 (aD X.K (.int i))) (r : Rtu X.K ρ2 A (xs.map Cd.d)) (h : atI xs i = some x) (hs : PlainIx b := by exact fun _ _ => rfl) : XE X (.Subscript a b pos) ρ ρ2 (aD X.K (Cd.d x)) := xe_ixT ha hb r (atI_map h) hs
theorem xe_lstD {xs : List α} {es : List Expr} (h : XA X es ρ ρ1 ((xs.map Cd.d).map (aD X.K))) (hz : xs.length ≤ 1000) : XE X (.List es pos) ρ ρ1 (aLD X.K (xs.map Cd.d)) := xe_lst h (by simpa using hz)
theorem xe_nv {v x : α} (h : XE X a ρ ρ1 (aD X.K (Cd.d v))) (e : v = x) : XE X a ρ ρ1 (aD X.K (Cd.d x)) := e ▸ h
theorem xe_unopt {o : Option α} {x : α} (h : XE X a ρ ρ1 (aD X.K (Cd.d o))) (e : o = some x) : XE X a ρ ρ1 (aD X.K (Cd.d x)) := by
  subst e
  exact h
theorem xc_truth {xs : List α} (h : XE X a ρ ρ1 A) {n : Nat} (r : Rsq X.K ρ1 A n) (hl : Rls X.K ρ1 A (xs.map Cd.d)) (he : ∀ whole, isTrue a X.env whole = (do let v ← whole; standAt a.pos; holding [v] (truthy v)) := by intro _; rfl) : XT X a ρ ρ1 (!xs.isEmpty) := by
  have q := xt_list h r hl he
  have e : (xs.map (Cd.d (α := α))).isEmpty = xs.isEmpty := by cases xs <;> rfl
  rwa [e] at q
theorem xc_len {xs : List α} (ha : XE X a ρ ρ1 A) (r : Rls X.K ρ1 A (xs.map Cd.d)) (hm : X.mg "len" = none) (hg : Gl X "len" := by rfl) (hs : starEach [a] X.env = [(false, eval a X.env)] := by rfl) (hpl : (backTo pos (starEach [] X.env)).any (·.1) = false := by rfl) : XE X (.Call (.Name "len" p) [a] [] pos) ρ ρ1 (aD X.K (.int ((xs.length : Nat) : Int))) := by
  have q := xe_len (p := p) (pos := pos) ha (Rls.sq r) hm hg hs hpl
  rwa [List.length_map] at q
theorem isi_opt {U : String} {k : Bool} (o : Option α) (h0 : kitB "NoneType" U = some false) {T : String} (hT : ∀ x : α, tyN (Cd.d x) = T) (h1 : kitB T U = some k) : kitB (tyN (Cd.d o)) U = some (Option.elim o false fun _ => k) := by
  cases o with
  | none => exact h0
  | some x =>
    show kitB (tyN (Cd.d x)) U = some k
    rw [hT x]
    exact h1
theorem xp_setD {α : Type} {cv : α → PyData} {xs : List α} {x : α} {v0 : V} (i : Nat) {j : Nat} {n : Int} (ho : XE X o ρ ρ (aV v0)) (hb : XE X b ρ ρ1 (aD X.K (.int n))) (h1 : ρ1[i]? = some (some (pin v0 (aLD X.K (xs.map cv))))) (hn : ixN xs.length n = some j)
    (ha : ∀ v, assign (.Subscript o b pos) X.env v = (do
      let ov ← holding [v] (eval o X.env)
      let iv ← holding [v, ov] (eval b X.env)
      standAt pos
      holding [v, ov, iv] (setItem ov iv v)
      release [v, ov, iv] []) := by intro _; rfl) : XP X (.Subscript o b pos) (aD X.K (cv x)) ρ (ρ1.set i (some (pin v0 (aLD X.K ((xs.set j x).map cv))))) := by
  have q := xp_setL (B := aD X.K (cv x)) i ho hb h1 (by simpa using hn) ha
  have e : ((xs.map cv).map (aD X.K)).set j (aD X.K (cv x)) = ((xs.set j x).map cv).map (aD X.K) := by simp [List.map_set]
  rwa [e] at q
/-! ### lists times an int -/
def RepOk (n : Nat) (k : Int) : Prop := -(2 ^ 63) ≤ k ∧ k < 2 ^ 63 ∧ n * k.toNat ≤ 1000000
instance (n : Nat) (k : Int) : Decidable (RepOk n k) := by unfold RepOk; exact inferInstance
def repL {α : Type} (xs : List α) (k : Int) : List α := (List.replicate k.toNat xs).flatten
theorem repL_map {α β : Type} (f : α → β) (xs : List α) (k : Int) : (repL xs k).map f = repL (xs.map f) k := by
  unfold repL
  rw [List.map_flatten, List.map_replicate]
theorem xc_rep {xs : List α} {k : Int} (hk : RepOk xs.length k) (ha : XE X a ρ ρ1 A) (hb : XE X b ρ1 ρ2 (aD X.K (.int k))) (r : Rlm X.K ρ2 A (xs.map Cd.d)) : XE X (.BinOp a .Mult b pos) ρ ρ2 (aLD X.K ((repL xs k).map Cd.d)) := fun E T t σ H l st Q kk =>
  wE.of (pe_op op_rep peS peS) (ha E T t σ H l st _ fun x H1 st1 => hb E (_ :: T) (_ :: t) σ H1 (by simp [l]) st1 _ fun y H2 st2 => by
    obtain ⟨G, F, Fv, Fw, f, cs, q1, q2, _⟩ := ST.two st2
    cases q2
    obtain ⟨p, vs, e1, e2, e3⟩ := r l cs f.gh q1
    refine ⟨p, k, vs, e1, rfl, e2, hk.1, hk.2.1, ?_, fun p' hp => kk _ _ ?_⟩
    · rw [e3.len, List.length_map]; exact sz_of hk.2.2
    · have q := ST.newL f cs hp (dq_rep e3 k.toNat)
      rw [repL_map]
      exact q)
/-! ### tests by their mirrors -/
def andO (m n : Option Bool) : Option Bool := m.bind fun k => if k = true then n else some false
def orO (m n : Option Bool) : Option Bool := m.bind fun k => if k = true then some true else n
def XWm (X : Cx) (e : Expr) (ρ : Cl) (m : Option Bool) : Prop := ∀ k, m = some k → XW X e ρ ρ k
theorem xwm_and1 {m : Option Bool} (h : XTm X a ρ m) : XWm X (.BoolOp .And [a] pos) ρ m := fun k hk => xw_and1 (h k hk)
theorem xwm_or1 {m : Option Bool} (h : XTm X a ρ m) : XWm X (.BoolOp .Or [a] pos) ρ m := fun k hk => xw_or1 (h k hk)
theorem xwm_and {m n : Option Bool} {rest : List Expr} (h : XTm X a ρ m) (h2 : XWm X (.BoolOp .And (b :: rest) pos) ρ n) : XWm X (.BoolOp .And (a :: b :: rest) pos) ρ (andO m n) := fun k hk => by
  unfold andO at hk
  cases hm : m with
  | none => rw [hm] at hk; cases hk
  | some k1 =>
    rw [hm] at hk
    cases k1 with
    | true => exact xw_and (k2 := k) (h true hm) fun _ => h2 k hk
    | false => cases hk; exact xw_and (k2 := false) (h false hm) fun z => nomatch z
theorem xwm_or {m n : Option Bool} {rest : List Expr} (h : XTm X a ρ m) (h2 : XWm X (.BoolOp .Or (b :: rest) pos) ρ n) : XWm X (.BoolOp .Or (a :: b :: rest) pos) ρ (orO m n) := fun k hk => by
  unfold orO at hk
  cases hm : m with
  | none => rw [hm] at hk; cases hk
  | some k1 =>
    rw [hm] at hk
    cases k1 with
    | false => exact xw_or (k2 := k) (h false hm) fun _ => h2 k hk
    | true => cases hk; exact xw_or (k2 := true) (h true hm) fun z => nomatch z
/-- the first operand may change what is known -/
theorem xw_and' {k k2 : Bool} {rest : List Expr} (h : XT X a ρ ρ1 k) (h2 : k = true → XW X (.BoolOp .And (b :: rest) pos) ρ1 ρ1 k2) : XW X (.BoolOp .And (a :: b :: rest) pos) ρ ρ1 (k && k2) := fun E T t σ H l st Q kk => wW.of (pw_and ptS pwS) (h E T t σ H l st _ fun H1 st1 => by
  cases k with
  | true => exact h2 rfl E T t σ H1 l st1 Q kk
  | false => exact kk H1 st1)
theorem xw_or' {k k2 : Bool} {rest : List Expr} (h : XT X a ρ ρ1 k) (h2 : k = false → XW X (.BoolOp .Or (b :: rest) pos) ρ1 ρ1 k2) : XW X (.BoolOp .Or (a :: b :: rest) pos) ρ ρ1 (k || k2) := fun E T t σ H l st Q kk => wW.of (pw_or ptS pwS) (h E T t σ H l st _ fun H1 st1 => by
  cases k with
  | false => exact h2 rfl E T t σ H1 l st1 Q kk
  | true => exact kk H1 st1)
theorem xw_andM {k k2 : Bool} {n : Option Bool} {rest : List Expr} (h : XT X a ρ ρ1 k) (h2 : XWm X (.BoolOp .And (b :: rest) pos) ρ1 n) (hk : (if k = true then n else some false) = some k2) : XW X (.BoolOp .And (a :: b :: rest) pos) ρ ρ1 k2 := by
  cases k with
  | true => exact xw_and' h fun _ => h2 k2 hk
  | false => cases hk; exact xw_and' (k2 := false) h fun z => nomatch z
theorem xw_orM {k k2 : Bool} {n : Option Bool} {rest : List Expr} (h : XT X a ρ ρ1 k) (h2 : XWm X (.BoolOp .Or (b :: rest) pos) ρ1 n) (hk : (if k = true then some true else n) = some k2) : XW X (.BoolOp .Or (a :: b :: rest) pos) ρ ρ1 k2 := by
  cases k with
  | false => exact xw_or' h fun _ => h2 k2 hk
  | true => cases hk; exact xw_or' (k2 := true) h fun z => nomatch z
/-- bools as values by their mirrors -/
def XBm (X : Cx) (e : Expr) (ρ : Cl) (m : Option Bool) : Prop := ∀ k, m = some k → XE X e ρ ρ (aD X.K (.bool k))
theorem xbm_bind {κ : Type} {m1 : Option κ} {k : κ → Option Bool} (h : ∀ x, m1 = some x → XBm X e ρ (k x)) : XBm X e ρ (m1.bind k) := fun o ho => by
  cases hm : m1 with
  | none => rw [hm] at ho; cases ho
  | some x => rw [hm] at ho; exact h x hm o ho
theorem xbm_some {k : Bool} (h : XE X e ρ ρ (aD X.K (.bool k))) : XBm X e ρ (some k) := fun _ ho => by cases ho; exact h
theorem xbm_one {op : BoolOp} {m : Option Bool} (h : XBm X a ρ m) : XBm X (.BoolOp op [a] pos) ρ m := fun k hk => xe_one (h k hk)
theorem xbm_and {m n : Option Bool} {rest : List Expr} (h : XBm X a ρ m) (h2 : XBm X (.BoolOp .And (b :: rest) pos) ρ n) : XBm X (.BoolOp .And (a :: b :: rest) pos) ρ (andO m n) := fun k hk => by
  unfold andO at hk
  cases hm : m with
  | none => rw [hm] at hk; cases hk
  | some k1 =>
    rw [hm] at hk
    cases k1 with
    | true => exact xe_and (k2 := k) (h true hm) fun _ => h2 k hk
    | false => cases hk; exact xe_and (k2 := false) (h false hm) fun z => nomatch z
theorem xbm_or {m n : Option Bool} {rest : List Expr} (h : XBm X a ρ m) (h2 : XBm X (.BoolOp .Or (b :: rest) pos) ρ n) : XBm X (.BoolOp .Or (a :: b :: rest) pos) ρ (orO m n) := fun k hk => by
  unfold orO at hk
  cases hm : m with
  | none => rw [hm] at hk; cases hk
  | some k1 =>
    rw [hm] at hk
    cases k1 with
    | false => exact xe_or (k2 := k) (h false hm) fun _ => h2 k hk
    | true => cases hk; exact xe_or (k2 := true) (h true hm) fun z => nomatch z
theorem xe_andM {k k2 : Bool} {n : Option Bool} {rest : List Expr} (h : XE X a ρ ρ1 (aD X.K (.bool k))) (h2 : XBm X (.BoolOp .And (b :: rest) pos) ρ1 n) (hk : (if k = true then n else some false) = some k2) : XE X (.BoolOp .And (a :: b :: rest) pos) ρ ρ1 (aD X.K (.bool k2)) := fun E T t σ H l st Q kk => wE.of (pe_and peS peS) (h E T t σ H l st _ fun x H1 st1 => by
  obtain ⟨G, F, f, cs, q⟩ := ST.top st1
  cases q
  refine ⟨k, rfl, ?_⟩
  cases k with
  | true => exact h2 k2 hk E T t σ H1 l ⟨G, F, f, cs⟩ Q kk
  | false => cases hk; exact kk _ H1 (ST.put f cs (.bl _)))
theorem xe_orM {k k2 : Bool} {n : Option Bool} {rest : List Expr} (h : XE X a ρ ρ1 (aD X.K (.bool k))) (h2 : XBm X (.BoolOp .Or (b :: rest) pos) ρ1 n) (hk : (if k = true then some true else n) = some k2) : XE X (.BoolOp .Or (a :: b :: rest) pos) ρ ρ1 (aD X.K (.bool k2)) := fun E T t σ H l st Q kk => wE.of (pe_or peS peS) (h E T t σ H l st _ fun x H1 st1 => by
  obtain ⟨G, F, f, cs, q⟩ := ST.top st1
  cases q
  refine ⟨k, rfl, ?_⟩
  cases k with
  | false => exact h2 k2 hk E T t σ H1 l ⟨G, F, f, cs⟩ Q kk
  | true => cases hk; exact kk _ H1 (ST.put f cs (.bl _)))
theorem xe_ite {k : Bool} {d : α → PyData} {x y : α} (h : XT X c ρ ρ1 k) (h1 : k = true → XE X a ρ1 ρ2 (aD X.K (d x))) (h2 : k = false → XE X b ρ1 ρ2 (aD X.K (d y))) : XE X (.IfExp c a b pos) ρ ρ2 (aD X.K (d (if k = true then x else y))) := by
  cases k with
  | true => exact xe_if h (fun _ => h1 rfl) fun z => nomatch z
  | false => exact xe_if h (fun z => nomatch z) fun _ => h2 rfl
end
/-- the law's own promise at the script -/
theorem law_sp {K : PySem.W.Frag} {H : Hp} {a : Addr} {ns : List Int} {n : Nat} {m : List Int → Option Bool} (hl : ns.length ≤ n) (hS : SqL K H a (ns.map V.int)) (ht : m ns = some true) {E : XK} :
    SpM (fun x : List Int => [aR K (List.map Cd.d x)]) m (fun _ _ => [none]) (fun _ (r : Bool) => aD K (Cd.d r)) [.ref a] H (fun v _ => v = .bl true) E := by
  refine ⟨ns, true, H, [], ht, ⟨.refl _, .refl _, by simp, fun b hb => by simp at hb, fun b hb => by simp at hb, fun _ _ q _ => q, fun b hb => by simp at hb, fun b o q n => by rw [show H b = none from n] at q; cases q⟩, ⟨.ref a, [], [], rfl, rfl, ⟨⟨a, _, rfl, hS, dq_ints ns⟩, rfl⟩, rfl⟩, rfl, fun v H' st => ?_⟩
  obtain ⟨G, F, f, c, q⟩ := ST.top (d := .bool true) st
  cases q
  rfl
end Mr

set_option Elab.async false
set_option linter.all false
set_option maxRecDepth 100000
namespace Mr
open PySem PySem.Spec PyProof.Rows L2

/-! ### more methods of owned lists of data -/
def popL {α : Type} (xs : List α) (n : Int) : Option (α × List α) := if -(2 ^ 63) ≤ n ∧ n < 2 ^ 63 then (seqIndex? n xs.length).bind fun k => (xs[k]?).bind fun x => some (x, xs.eraseIdx k) else none
def insL {α : Type} (xs : List α) (n : Int) (x : α) : Option (List α) := if xs.length < 1000000 ∧ 0 ≤ n ∧ n < 2 ^ 63 then some (xs.take n.toNat ++ [x] ++ xs.drop n.toNat) else none
theorem popL_eq {α : Type} {xs : List α} {n : Int} {r : α × List α} (h : popL xs n = some r) : -(2 ^ 63) ≤ n ∧ n < 2 ^ 63 ∧ ∃ k, seqIndex? n xs.length = some k ∧ xs[k]? = some r.1 ∧ r.2 = xs.eraseIdx k := by
  unfold popL at h
  split at h
  · rename_i hc
    cases hk : seqIndex? n xs.length with
    | none => rw [hk] at h; cases h
    | some k =>
      rw [hk] at h
      have h : ((xs[k]?).bind fun x => some (x, xs.eraseIdx k)) = some r := h
      cases hx : xs[k]? with
      | none => rw [hx] at h; cases h
      | some x =>
        rw [hx] at h
        cases h
        exact ⟨hc.1, hc.2, k, rfl, hx, rfl⟩
  · cases h
theorem insL_eq {α : Type} {xs : List α} {n : Int} {x : α} {r : List α} (h : insL xs n x = some r) : (xs.length < 1000000 ∧ 0 ≤ n ∧ n < 2 ^ 63) ∧ r = xs.take n.toNat ++ [x] ++ xs.drop n.toNat := by
  unfold insL at h
  split at h
  · cases h; exact ⟨by assumption, rfl⟩
  · cases h
theorem DqAll.map_eq {K : PySem.W.Frag} {G : Hp} {α : Type} {cv : α → PyData} {xs : List α} {vs : List V} (h : DqAll K G vs (xs.map cv)) : vs.length = xs.length := by
  rw [h.len, List.length_map]
theorem cs_ofD {K : PySem.W.Frag} {G H : Hp} {α : Type} {cv : α → PyData} {xs : List α} {vs : List V} (h : DqAll K G vs (xs.map cv)) : Cs G H (((xs.map cv).map (aD K)).map some) (vs.map some) [] := csD' h
/-- values that are known to be data -/
def aAll (K : PySem.W.Frag) (us : List V) (ds : List PyData) : OA := ⟨fun G _ _ F => DqAll K G us ds ∧ F = [], fun h e _ _ => ⟨DqAll.mono e _ _ h.1, h.2⟩⟩
theorem dq_erase {K : PySem.W.Frag} {G : Hp} : ∀ {ds : List PyData} {vs : List V} (k : Nat), DqAll K G vs ds → DqAll K G (vs.eraseIdx k) (ds.eraseIdx k)
  | [], _, k, h => by cases h; cases k <;> exact .nil
  | d :: ds, _, 0, h => by
    cases h with
    | cons h1 h2 => exact h2
  | d :: ds, _, k + 1, h => by
    cases h with
    | cons h1 h2 => exact .cons h1 (dq_erase k h2)
theorem map_erase {α β : Type} (f : α → β) : ∀ (xs : List α) (k : Nat), (xs.eraseIdx k).map f = (xs.map f).eraseIdx k
  | [], k => by cases k <;> rfl
  | x :: xs, 0 => rfl
  | x :: xs, k + 1 => congrArg (f x :: ·) (map_erase f xs k)
section
variable {X : Cx} {ρ ρ1 ρ2 ρ3 : Cl} {a b c e o : Expr} {pos p apos cpos : Pos} {A B : OA} {As0 : List OA} {v0 : V} {α : Type} {cv : α → PyData} {xs : List α}
/-- xs.pop(e) -/
theorem xe_popAt (i : Nat) {n : Int} {r : α × List α} (hr : popL xs n = some r) (ho : XE X o ρ ρ (aV v0)) (h0 : ρ[i]? = some (some (pin v0 (aL As0)))) (he : XE X e ρ ρ1 (aD X.K (.int n))) (h1 : ρ1[i]? = some (some (pin v0 (aLD X.K (xs.map cv)))))
    (hbase : attributeBase o "pop" X.env (eval o X.env) = eval o X.env := by rfl) (hfew : ((backTo cpos (starEach [e] X.env)).all (fun x => !x.1) && (backToKw cpos (keywordEach [] X.env)).all (fun x => x.1.isSome) && decide ([e].length + ([] : List Keyword).length + (if ([] : List Keyword).isEmpty then 0 else 1) < 30)) = true := by rfl)
    (hline : (apos.endLine == cpos.line) = true := by rfl) (hs : starEach [e] X.env = (false, eval e X.env) :: starEach [] X.env := by rfl) (hplain : (backTo cpos (starEach [] X.env)).any (·.1) = false := by rfl) :
    XE X (.Call (.Attribute o "pop" apos) [e] [] cpos) ρ (ρ1.set i (some (pin v0 (aLD X.K (r.2.map cv))))) (aD X.K (cv r.1)) := fun E T t σ H l st Q k =>
  wE.of (pe_bm PySem.F.plainAttrs_list PySem.F.slot_list_pop PySem.F.type_list_pop mt_popAt peS (pa_cons peS pa_nil hs) hbase hfew hline hs hplain) (ho E T t σ H l st _ fun x H1 st1 => by
    obtain ⟨e0, ty⟩ := ST.isL (X := X) l st1 h0
    subst e0
    refine ⟨ty, he E (_ :: T) (_ :: t) σ H1 (by simp [l]) st1 _ fun y H2 st2 => ?_⟩
    obtain ⟨G, F, f, c, q1⟩ := ST.top st2
    cases q1
    have st3 : ST E (T ++ ρ1) (t ++ σ) H2 := ST.pop (A := aV x) (x := some x) ⟨G, F, f, c⟩
    clear c f
    obtain ⟨G1, Fg, f, c⟩ := st3
    obtain ⟨w, F1, F2, e1, e2, ⟨e3, p, vs, F', e4, e5, h3, c1⟩, c2⟩ := c.slot l h1
    subst e3 e4
    obtain ⟨q1, q2⟩ := csD c1
    obtain ⟨b1, b2, k0, hk, hx, er⟩ := popL_eq hr
    obtain ⟨v, hv, qv⟩ := q1.get (i := k0) (d := cv r.1) (by rw [List.getElem?_map, hx]; rfl)
    have st4 : ST E (some (aD X.K .none) :: ((some (aD X.K (cv r.1)) :: T) ++ ρ1)) (some .non :: ((some v :: t) ++ σ)) H2 := ST.putN X.K (ST.put f c qv)
    obtain ⟨p', vs', e6, h4, hl, go⟩ := ST.modL (T := some (aD X.K (cv r.1)) :: T) (t := some v :: t) (by simp [l]) st4 h1
    cases e6
    rw [h3] at h4
    cases h4
    refine ⟨p, vs, n, k0, v, rfl, rfl, h3, b1, b2, by rw [q1.map_eq]; exact hk, hv, k _ _ ?_⟩
    refine go ((r.2.map cv).map (aD X.K)) (vs.eraseIdx k0) fun G H F1 F2 c q => ?_
    obtain ⟨q3, q4⟩ := csD c
    refine ⟨[], fun b hb => by simp at hb, fun _ => by simp, csD' ?_⟩
    rw [er, map_erase]
    exact dq_erase k0 q3)
/-- xs.insert(e, x) -/
theorem xe_insertD (i : Nat) {n : Int} {x : α} {r : List α} (hr : insL xs n x = some r) (ho : XE X o ρ ρ (aV v0)) (h0 : ρ[i]? = some (some (pin v0 (aL As0)))) (he : XE X e ρ ρ1 (aD X.K (.int n))) (hb : XE X b ρ1 ρ2 (aD X.K (cv x))) (h1 : ρ2[i]? = some (some (pin v0 (aLD X.K (xs.map cv)))))
    (hbase : attributeBase o "insert" X.env (eval o X.env) = eval o X.env := by rfl) (hfew : ((backTo cpos (starEach [e, b] X.env)).all (fun x => !x.1) && (backToKw cpos (keywordEach [] X.env)).all (fun x => x.1.isSome) && decide ([e, b].length + ([] : List Keyword).length + (if ([] : List Keyword).isEmpty then 0 else 1) < 30)) = true := by rfl)
    (hline : (apos.endLine == cpos.line) = true := by rfl) (hs : starEach [e, b] X.env = (false, eval e X.env) :: starEach [b] X.env := by rfl) (hs2 : starEach [b] X.env = [(false, eval b X.env)] := by rfl) (hplain : (backTo cpos (starEach [b] X.env)).any (·.1) = false := by rfl) :
    XE X (.Call (.Attribute o "insert" apos) [e, b] [] cpos) ρ (ρ2.set i (some (pin v0 (aLD X.K (r.map cv))))) (aD X.K .none) := fun E T t σ H l st Q k =>
  wE.of (pe_bm PySem.F.plainAttrs_list PySem.F.slot_list_insert PySem.F.type_list_insert mt_insert peS (pa_cons peS (pa_cons peS pa_nil hs2) (by rw [hs])) hbase hfew hline hs hplain) (ho E T t σ H l st _ fun y H1 st1 => by
    obtain ⟨e0, ty⟩ := ST.isL (X := X) l st1 h0
    subst e0
    refine ⟨ty, he E (_ :: T) (_ :: t) σ H1 (by simp [l]) st1 _ fun z H2 st2 => hb E (_ :: _ :: T) (_ :: _ :: t) σ H2 (by simp [l]) st2 _ fun u H3 st3 => ?_⟩
    have st4 : ST E (some (aD X.K (cv x)) :: some (aD X.K (.int n)) :: (T ++ ρ2)) (some u :: some z :: (t ++ σ)) H3 := by
      obtain ⟨G, F, f, w, F1, F2, e1, e2, q, w2, F3, F4, e3, e4, q2, w5, F5, F6, e5, e6, q5, c⟩ := st3
      subst e6 e4 e2
      exact ⟨G, F1 ++ (F3 ++ F6), f.less (List.Sublist.append_left (List.Sublist.append_left (List.sublist_append_right _ _) F3) F1), w, F1, _, e1, rfl, q, w2, F3, F6, e3, rfl, q2, c⟩
    have ez : z = .int n := by
      obtain ⟨G, F, f, c, q1, q2⟩ := ST.top2 st4
      cases q1
      rfl
    subst ez
    have st5 := ST.drop2 st4
    obtain ⟨p, vs, e1, h2, hl, go⟩ := ST.modL l st5 h1
    obtain ⟨⟨b1, b2, b3⟩, er⟩ := insL_eq hr
    refine ⟨p, vs, n, u, e1, rfl, h2, by rw [hl]; simp; exact sz_lt b1, b2, b3, k _ _ ?_⟩
    have st6 := go ((r.map cv).map (aD X.K)) (vs.take n.toNat ++ [u] ++ vs.drop n.toNat) fun G H F1 F2 c q => by
      obtain ⟨q3, q4⟩ := csD c
      obtain ⟨q5, q6⟩ := q
      refine ⟨[], fun b hb => by simp at hb, fun _ => by simp, csD' ?_⟩
      rw [er]
      simp only [List.map_append, List.map_take, List.map_drop, List.map_cons, List.map_nil]
      exact ((q3.take _).append (.cons q5 .nil)).append (q3.drop _)
    exact ST.putN X.K st6)
/-- xs.extend(ys) -/
theorem xe_extendD (i : Nat) {ys : List α} (hz : xs.length + ys.length ≤ 1000000) (ho : XE X o ρ ρ (aV v0)) (h0 : ρ[i]? = some (some (pin v0 (aL As0)))) (he : XE X e ρ ρ1 A) (r : Rlm X.K ρ1 A (ys.map cv)) (h1 : ρ1[i]? = some (some (pin v0 (aLD X.K (xs.map cv)))))
    (hbase : attributeBase o "extend" X.env (eval o X.env) = eval o X.env := by rfl) (hfew : ((backTo cpos (starEach [e] X.env)).all (fun x => !x.1) && (backToKw cpos (keywordEach [] X.env)).all (fun x => x.1.isSome) && decide ([e].length + ([] : List Keyword).length + (if ([] : List Keyword).isEmpty then 0 else 1) < 30)) = true := by rfl)
    (hline : (apos.endLine == cpos.line) = true := by rfl) (hs : starEach [e] X.env = (false, eval e X.env) :: starEach [] X.env := by rfl) (hplain : (backTo cpos (starEach [] X.env)).any (·.1) = false := by rfl) :
    XE X (.Call (.Attribute o "extend" apos) [e] [] cpos) ρ (ρ1.set i (some (pin v0 (aLD X.K ((xs ++ ys).map cv))))) (aD X.K .none) := fun E T t σ H l st Q k =>
  wE.of (pe_bm PySem.F.plainAttrs_list PySem.F.slot_list_extend PySem.F.type_list_extend mt_extend peS (pa_cons peS pa_nil hs) hbase hfew hline hs hplain) (ho E T t σ H l st _ fun x H1 st1 => by
    obtain ⟨e0, ty⟩ := ST.isL (X := X) l st1 h0
    subst e0
    refine ⟨ty, he E (_ :: T) (_ :: t) σ H1 (by simp [l]) st1 _ fun y H2 st2 => ?_⟩
    have st3 := ST.drop2 st2
    obtain ⟨G, F, Fv, f, cs, q⟩ := ST.one st3
    obtain ⟨p2, us, e1, e2, e3⟩ := r l cs f.gh q
    have st4 : ST E (some (aAll X.K us (ys.map cv)) :: (T ++ ρ1)) (some .non :: (t ++ σ)) H2 := ⟨G, F, f, .non, [], F, rfl, rfl, ⟨e3, rfl⟩, cs⟩
    obtain ⟨p, vs, e6, h4, hl, go⟩ := ST.modL l st4 h1
    have hvl : vs.length = xs.length := by simpa using hl
    have hul : us.length = ys.length := by simpa using e3.len
    refine ⟨p, p2, vs, us, e6, by rw [e1], h4, e2, by rw [hvl, hul]; exact sz_of hz, k _ _ ?_⟩
    exact ST.putN X.K (go (((xs ++ ys).map cv).map (aD X.K)) (vs ++ us) fun G H F1 F2 c q => by
      obtain ⟨q3, q4⟩ := csD c
      obtain ⟨q5, q6⟩ := q
      refine ⟨[], fun b hb => by simp at hb, fun _ => by simp, csD' ?_⟩
      rw [List.map_append]
      exact q3.append q5))
/-- tuple(xs) of a list -/
theorem ST.newT' {E : Ent} {K : PySem.W.Frag} {L : Cl} {C : L2.St} {G H : Hp} {F : List Addr} {p : Addr} {vs : List V} {ds : List PyData} (f : Frm E G H F) (c : Cs G H L C F) (n : H p = none) (q : DqAll K G vs ds) : ST E (some (aD K (.tuple ds)) :: L) (some (.ref p) :: C) (upd H p (.tup vs)) := ST.newT f c n q
theorem xc_tuple {β : Type} [Cd β] {xs : List β} (ha : XE X a ρ ρ1 A) (r : Rls X.K ρ1 A (xs.map Cd.d)) (hm : X.mg "tuple" = none) (hg : Gl X "tuple" := by rfl) (hs : starEach [a] X.env = [(false, eval a X.env)] := by rfl) (hpl : (backTo pos (starEach [] X.env)).any (·.1) = false := by rfl) : XE X (.Call (.Name "tuple" p) [a] [] pos) ρ ρ1 (aD X.K (.tuple (xs.map Cd.d))) :=
  xe_callTy call_tuple_of (xa_cons ha xa_nil hs) (fun E T t σ vs H Q l hl st k => by
    obtain ⟨v, rfl⟩ := vs1 hl
    obtain ⟨G, F, Fv, f, cs, q⟩ := ST.one st
    obtain ⟨p, ys, e1, e2, e3⟩ := r l cs f.gh q
    exact ⟨p, ys, by rw [e1], .inl ⟨e2, fun l hl => k _ _ (ST.newT f cs hl e3)⟩⟩) hm (by decide +kernel) hg (by decide) (by decide) hs hpl
def toT4 {β : Type} : List β → Option (T4 β β β β)
  | [a, b, c, d] => some ⟨a, b, c, d⟩
  | _ => none
theorem xe_toT4 {β : Type} [Cd β] {xs : List β} {t : T4 β β β β} (h : XE X a ρ ρ1 (aD X.K (.tuple (xs.map Cd.d)))) (e : toT4 xs = some t) : XE X a ρ ρ1 (aD X.K (Cd.d t)) := by
  match xs, e with
  | [_, _, _, _], e => cases e; exact h
end
end Mr

set_option Elab.async false
set_option linter.all false
set_option maxRecDepth 100000
/-! states written out -/
namespace Mr
open PySem PySem.Spec PyProof.Rows L2
section
variable {X : Cx} {ω : Type} {sts : List Stmt} {m : Option ω} {Φ : ω → Ent → Ends → Prop}
theorem xg_st (ρ0 : Cl) {ρ : Cl} (e : ρ0 = ρ) (h : XG X sts ρ0 m Φ) : XG X sts ρ m Φ := e ▸ h
end
end Mr

set_option Elab.async false
set_option linter.all false
set_option maxRecDepth 100000
/-! places: where in a state an owned thing stands; instances of classes -/
namespace Mr
open PySem PySem.Spec PyProof.Rows L2
structure Own (ρ : Cl) (v0 : V) (A : OA) (w : OA → Cl) : Prop where
  get : ∀ {G H : Hp} {T : Cl} {t σ : L2.St} {F : List Addr}, T.length = t.length → Cs G H (T ++ ρ) (t ++ σ) F → ∃ F1 F2, F.Perm (F1 ++ F2) ∧ A.P G H v0 F1 ∧
    ∀ {G' H' : Hp} {F1' : List Addr} {B : OA}, Ex G G' → Ex G' H' → (∀ b ∈ F2, ∀ o, H b = some o → H' b = some o) → B.P G' H' v0 F1' → ∃ F', F'.Perm (F1' ++ F2) ∧ Cs G' H' (T ++ w B) (t ++ σ) F'
theorem Own.slot {ρ : Cl} {v0 : V} {A : OA} (i : Nat) (h : ρ[i]? = some (some (pin v0 A))) : Own ρ v0 A (fun B => ρ.set i (some (pin v0 B))) := ⟨fun {G H T t σ F} l c => by
  obtain ⟨v, F1, F2, e1, e2, ⟨e3, q⟩, c2⟩ := c.slot l h
  subst e3
  refine ⟨F1, F2, e2, q, fun {G' H' F1' B} e e' k p => ?_⟩
  obtain ⟨F', a, b⟩ := (c2.mono e e' k).back l (lt_of_get h) e1 (A := pin v B) ⟨rfl, p⟩
  exact ⟨F', a, b⟩⟩
/-- an instance: its attributes in the order in which they were given -/
def aObj (C : Addr) (ns : List Str) (As : List OA) : OA := ⟨fun G H v F => ∃ p dx vs F', v = .ref p ∧ F = p :: F' ∧ H p = some (.ins C dx (ns.zip vs)) ∧ vs.length = ns.length ∧ Cs G H (As.map some) (vs.map some) F', fun h e e' k => by
  obtain ⟨p, dx, vs, F', e1, e2, h1, hl, c⟩ := h
  subst e2
  exact ⟨p, dx, vs, F', e1, rfl, k p (by simp) _ h1, hl, c.mono e e' fun b hb => k b (List.mem_cons_of_mem _ hb)⟩⟩
theorem Own.fld {ρ : Cl} {a0 v0 : V} {A : OA} {C : Addr} {ns : List Str} {As : List OA} {w : OA → Cl} (O : Own ρ a0 (aObj C ns As) w) (k : Nat) (hk : As[k]? = some (pin v0 A)) : Own ρ v0 A (fun B => w (aObj C ns (As.set k (pin v0 B)))) := ⟨fun {G H T t σ F} l c => by
  obtain ⟨F1, F2, e1, ⟨p, dx, vs, F', e2, e3, h1, hl, c1⟩, go⟩ := O.get l c
  subst e2 e3
  obtain ⟨v, Fa, Fb, ev, e4, ⟨e5, q⟩, c2⟩ := c1.getP hk
  subst e5
  have pm : (p :: F' ++ F2).Perm (Fa ++ (p :: Fb ++ F2)) := by
    have q1 : (p :: F' ++ F2).Perm (p :: (Fa ++ Fb) ++ F2) := List.Perm.append_right F2 (List.Perm.cons p e4)
    refine q1.trans ?_
    show (p :: (Fa ++ Fb ++ F2)).Perm (Fa ++ (p :: (Fb ++ F2)))
    rw [List.append_assoc]
    exact List.perm_middle.symm
  refine ⟨Fa, p :: Fb ++ F2, e1.trans pm, q, fun {G' H' Fa' B} e e' kp pB => ?_⟩
  have c3 := c2.mono e e' fun b hb => kp b (by simp [hb])
  obtain ⟨F3, a3, c4⟩ := c3.join (A := pin v B) (v := v) (F1 := Fa') (by rw [List.length_map]; exact lt_of_get hk) ⟨rfl, pB⟩
  have e6 : (vs.map some).set k (some v) = vs.map some := set_get (by rw [List.getElem?_map, ev]; rfl)
  rw [e6] at c4
  have c4 : Cs G' H' ((As.set k (pin v B)).map some) (vs.map some) F3 := by simpa [List.map_set] using c4
  obtain ⟨F5, a5, c5⟩ := go e e' (fun b hb => kp b (by simp [hb])) (B := aObj C ns (As.set k (pin v B))) (F1' := p :: F3) ⟨p, dx, vs, F3, rfl, rfl, kp p (by simp) _ h1, hl, c4⟩
  refine ⟨F5, a5.trans ?_, c5⟩
  have q1 : (p :: F3 ++ F2).Perm (p :: (Fa' ++ Fb) ++ F2) := List.Perm.append_right F2 (List.Perm.cons p a3)
  refine q1.trans ?_
  show (p :: (Fa' ++ Fb ++ F2)).Perm (Fa' ++ (p :: (Fb ++ F2)))
  rw [List.append_assoc]
  exact List.perm_middle.symm⟩
/-- an item of a list -/
theorem Own.itm {ρ : Cl} {a0 v0 : V} {A : OA} {As : List OA} {w : OA → Cl} (O : Own ρ a0 (aL As) w) (k : Nat) (hk : As[k]? = some (pin v0 A)) : Own ρ v0 A (fun B => w (aL (As.set k (pin v0 B)))) := ⟨fun {G H T t σ F} l c => by
  obtain ⟨F1, F2, e1, ⟨p, vs, F', e2, e3, h1, c1⟩, go⟩ := O.get l c
  subst e2 e3
  obtain ⟨v, Fa, Fb, ev, e4, ⟨e5, q⟩, c2⟩ := c1.getP hk
  subst e5
  have pm : (p :: F' ++ F2).Perm (Fa ++ (p :: Fb ++ F2)) := by
    have q1 : (p :: F' ++ F2).Perm (p :: (Fa ++ Fb) ++ F2) := List.Perm.append_right F2 (List.Perm.cons p e4)
    refine q1.trans ?_
    show (p :: (Fa ++ Fb ++ F2)).Perm (Fa ++ (p :: (Fb ++ F2)))
    rw [List.append_assoc]
    exact List.perm_middle.symm
  refine ⟨Fa, p :: Fb ++ F2, e1.trans pm, q, fun {G' H' Fa' B} e e' kp pB => ?_⟩
  have c3 := c2.mono e e' fun b hb => kp b (by simp [hb])
  obtain ⟨F3, a3, c4⟩ := c3.join (A := pin v B) (v := v) (F1 := Fa') (by rw [List.length_map]; exact lt_of_get hk) ⟨rfl, pB⟩
  have e6 : (vs.map some).set k (some v) = vs.map some := set_get (by rw [List.getElem?_map, ev]; rfl)
  rw [e6] at c4
  have c4 : Cs G' H' ((As.set k (pin v B)).map some) (vs.map some) F3 := by simpa [List.map_set] using c4
  obtain ⟨F5, a5, c5⟩ := go e e' (fun b hb => kp b (by simp [hb])) (B := aL (As.set k (pin v B))) (F1' := p :: F3) ⟨p, vs, F3, rfl, rfl, kp p (by simp) _ h1, c4⟩
  refine ⟨F5, a5.trans ?_, c5⟩
  have q1 : (p :: F3 ++ F2).Perm (p :: (Fa' ++ Fb) ++ F2) := List.Perm.append_right F2 (List.Perm.cons p a3)
  refine q1.trans ?_
  show (p :: (Fa' ++ Fb ++ F2)).Perm (Fa' ++ (p :: (Fb ++ F2)))
  rw [List.append_assoc]
  exact List.perm_middle.symm⟩
theorem ST.modW {E : Ent} {T ρ : Cl} {t σ : L2.St} {H : Hp} {B : OA} {y v0 : V} {As : List OA} {w : OA → Cl} (l : T.length = t.length) (st : ST E (some B :: (T ++ ρ)) (some y :: (t ++ σ)) H) (O : Own ρ v0 (aL As) w) :
    ∃ p vs, v0 = .ref p ∧ H p = some (.lst vs) ∧ vs.length = As.length ∧ ∀ (As' : List OA) (vs' : List V),
      (∀ G H F1 F2, Cs G H (As.map some) (vs.map some) F1 → B.P G H y F2 → ∃ F3, (∀ b ∈ F3, b ∈ F1 ++ F2) ∧ ((F1 ++ F2).Nodup → F3.Nodup) ∧ Cs G H (As'.map some) (vs'.map some) F3) →
      ST E (T ++ w (aL As')) (t ++ σ) (upd H p (.lst vs')) := by
  obtain ⟨G, F, f, y', Fb, F0, e1, e2, hb, cs⟩ := st
  cases e1
  subst e2
  obtain ⟨F1, F2, e4, ⟨p, vs, F', e6, e7, h1, c1⟩, back⟩ := O.get l cs
  subst e6 e7
  refine ⟨p, vs, rfl, h1, by simpa using c1.len.symm, fun As' vs' k => ?_⟩
  have perm : (Fb ++ F0).Perm ((p :: (F' ++ Fb)) ++ F2) := by
    refine (List.Perm.append_left Fb e4).trans ?_
    have q : (Fb ++ (p :: F' ++ F2)).Perm ((p :: F' ++ F2) ++ Fb) := List.perm_append_comm
    refine q.trans ?_
    show (p :: (F' ++ F2 ++ Fb)).Perm (p :: ((F' ++ Fb) ++ F2))
    refine List.Perm.cons p ?_
    rw [List.append_assoc, List.append_assoc]
    exact List.Perm.append_left F' List.perm_append_comm
  have f1 := f.perm perm
  have f2 : Frm ⟨G, H, p :: (F' ++ Fb)⟩ G H (p :: (F' ++ Fb)) := (f1.less (List.sublist_append_left _ _)).start
  have f3 := Frm.write (o := .lst vs') f2
  have nd := f2.nd
  have np : ∀ b ∈ F' ++ Fb, b ≠ p := fun b hb z => by
    subst z
    exact (List.nodup_cons.mp nd).1 hb
  have keep : ∀ b ∈ F' ++ Fb, ∀ o, H b = some o → upd H p (.lst vs') b = some o := fun b hb o q => by rw [upd_ne (np b hb)]; exact q
  obtain ⟨F3, k1, k2, k3⟩ := k G (upd H p (.lst vs')) F' Fb (c1.mono (.refl _) f3.gh fun b hb => keep b (List.mem_append_left _ hb)) (B.mono hb (.refl _) f3.gh fun b hb => keep b (List.mem_append_right _ hb))
  have f4 : Frm ⟨G, H, p :: (F' ++ Fb)⟩ G (upd H p (.lst vs')) (p :: F3) := f3.sub (List.nodup_cons.mpr ⟨fun z => (List.nodup_cons.mp nd).1 (k1 p z), k2 (List.nodup_cons.mp nd).2⟩) fun b hb => by
    rcases List.mem_cons.mp hb with z | z
    · exact z ▸ List.mem_cons_self
    · exact List.mem_cons_of_mem _ (k1 b z)
  obtain ⟨f5, st5⟩ := f.step perm f4
  obtain ⟨F6, e8, c4⟩ := back (.refl _) f5.gh st5 (B := aL As') (F1' := p :: F3) ⟨p, vs', F3, rfl, rfl, upd_same, k3⟩
  exact ⟨G, F6, f5.perm e8.symm, c4⟩
/-- an instance is changed -/
theorem ST.modO {E : Ent} {T ρ : Cl} {t σ : L2.St} {H : Hp} {B : OA} {y v0 : V} {C : Addr} {ns : List Str} {As : List OA} {w : OA → Cl} (l : T.length = t.length) (st : ST E (some B :: (T ++ ρ)) (some y :: (t ++ σ)) H) (O : Own ρ v0 (aObj C ns As) w) :
    ∃ p dx vs, v0 = .ref p ∧ H p = some (.ins C dx (ns.zip vs)) ∧ vs.length = ns.length ∧ vs.length = As.length ∧ ∀ (ns' : List Str) (As' : List OA) (vs' : List V), vs'.length = ns'.length →
      (∀ G H F1 F2, Cs G H (As.map some) (vs.map some) F1 → B.P G H y F2 → ∃ F3, (∀ b ∈ F3, b ∈ F1 ++ F2) ∧ ((F1 ++ F2).Nodup → F3.Nodup) ∧ Cs G H (As'.map some) (vs'.map some) F3) →
      ST E (T ++ w (aObj C ns' As')) (t ++ σ) (upd H p (.ins C dx (ns'.zip vs'))) := by
  obtain ⟨G, F, f, y', Fb, F0, e1, e2, hb, cs⟩ := st
  cases e1
  subst e2
  obtain ⟨F1, F2, e4, ⟨p, dx, vs, F', e6, e7, h1, hl, c1⟩, back⟩ := O.get l cs
  subst e6 e7
  refine ⟨p, dx, vs, rfl, h1, hl, by simpa using c1.len.symm, fun ns' As' vs' hl' k => ?_⟩
  have perm : (Fb ++ F0).Perm ((p :: (F' ++ Fb)) ++ F2) := by
    refine (List.Perm.append_left Fb e4).trans ?_
    have q : (Fb ++ (p :: F' ++ F2)).Perm ((p :: F' ++ F2) ++ Fb) := List.perm_append_comm
    refine q.trans ?_
    show (p :: (F' ++ F2 ++ Fb)).Perm (p :: ((F' ++ Fb) ++ F2))
    refine List.Perm.cons p ?_
    rw [List.append_assoc, List.append_assoc]
    exact List.Perm.append_left F' List.perm_append_comm
  have f1 := f.perm perm
  have f2 : Frm ⟨G, H, p :: (F' ++ Fb)⟩ G H (p :: (F' ++ Fb)) := (f1.less (List.sublist_append_left _ _)).start
  have f3 := Frm.write (o := .ins C dx (ns'.zip vs')) f2
  have nd := f2.nd
  have np : ∀ b ∈ F' ++ Fb, b ≠ p := fun b hb z => by
    subst z
    exact (List.nodup_cons.mp nd).1 hb
  have keep : ∀ b ∈ F' ++ Fb, ∀ o, H b = some o → upd H p (.ins C dx (ns'.zip vs')) b = some o := fun b hb o q => by rw [upd_ne (np b hb)]; exact q
  obtain ⟨F3, k1, k2, k3⟩ := k G (upd H p (.ins C dx (ns'.zip vs'))) F' Fb (c1.mono (.refl _) f3.gh fun b hb => keep b (List.mem_append_left _ hb)) (B.mono hb (.refl _) f3.gh fun b hb => keep b (List.mem_append_right _ hb))
  have f4 : Frm ⟨G, H, p :: (F' ++ Fb)⟩ G (upd H p (.ins C dx (ns'.zip vs'))) (p :: F3) := f3.sub (List.nodup_cons.mpr ⟨fun z => (List.nodup_cons.mp nd).1 (k1 p z), k2 (List.nodup_cons.mp nd).2⟩) fun b hb => by
    rcases List.mem_cons.mp hb with z | z
    · exact z ▸ List.mem_cons_self
    · exact List.mem_cons_of_mem _ (k1 b z)
  obtain ⟨f5, st5⟩ := f.step perm f4
  obtain ⟨F6, e8, c4⟩ := back (.refl _) f5.gh st5 (B := aObj C ns' As') (F1' := p :: F3) ⟨p, dx, vs', F3, rfl, rfl, upd_same, hl', k3⟩
  exact ⟨G, F6, f5.perm e8.symm, c4⟩
theorem ST.isW {X : Cx} {E : Ent} {T ρ : Cl} {t σ : L2.St} {H : Hp} {v0 v : V} {As : List OA} {w : OA → Cl} (l : T.length = t.length) (st : ST E (some (aV v0) :: (T ++ ρ)) (some v :: (t ++ σ)) H) (O : Own ρ v0 (aL As) w) : v = v0 ∧ tyV X.K "list" v H := by
  obtain ⟨G, F, Fv, f, cs, e0, _⟩ := ST.one st
  obtain ⟨F1, F2, e4, ⟨p, vs, F', e6, e7, h1, c1⟩, _⟩ := O.get l cs
  subst e0 e6
  exact ⟨rfl, .inl ⟨rfl, vs, .inl (.inl h1)⟩⟩
theorem rmW {K : PySem.W.Frag} {ρ : Cl} {ds : List PyData} {v0 : V} {w : OA → Cl} (O : Own ρ v0 (aLD K ds) w) : Rlm K ρ (aV v0) ds := fun l c e p => by
  obtain ⟨e0, _⟩ := p
  obtain ⟨F1, F2, e1, q, _⟩ := O.get l c
  subst e0
  exact rmL l c e q
theorem rsW {K : PySem.W.Frag} {ρ : Cl} {As : List OA} {v0 : V} {w : OA → Cl} (O : Own ρ v0 (aL As) w) : Rsq K ρ (aV v0) As.length := fun l c e p => by
  obtain ⟨e0, _⟩ := p
  obtain ⟨F1, F2, e1, q, _⟩ := O.get l c
  subst e0
  exact rsL l c e q
section
variable {X : Cx} {ρ ρ1 ρ2 ρ3 : Cl} {a b c e o : Expr} {pos p apos cpos : Pos} {A B : OA} {As As0 : List OA} {d : PyData} {ds : List PyData} {v0 : V} {w w0 : OA → Cl}
theorem xe_appendW (ho : XE X o ρ ρ (aV v0)) (h0 : Own ρ v0 (aL As0) w0) (he : XE X e ρ ρ1 B) (h1 : Own ρ1 v0 (aL As) w) (hz : As.length < sizeLine)
    (hbase : attributeBase o "append" X.env (eval o X.env) = eval o X.env := by rfl) (hfew : ((backTo cpos (starEach [e] X.env)).all (fun x => !x.1) && (backToKw cpos (keywordEach [] X.env)).all (fun x => x.1.isSome) && decide ([e].length + ([] : List Keyword).length + (if ([] : List Keyword).isEmpty then 0 else 1) < 30)) = true := by rfl)
    (hline : (apos.endLine == cpos.line) = true := by rfl) (hs : starEach [e] X.env = (false, eval e X.env) :: starEach [] X.env := by rfl) (hplain : (backTo cpos (starEach [] X.env)).any (·.1) = false := by rfl) :
    XE X (.Call (.Attribute o "append" apos) [e] [] cpos) ρ (w (aL (As ++ [B]))) (aD X.K .none) := fun E T t σ H l st Q k =>
  wE.of (pe_bm PySem.F.plainAttrs_list PySem.F.slot_list_append PySem.F.type_list_append mt_append peS (pa_cons peS pa_nil hs) hbase hfew hline hs hplain) (ho E T t σ H l st _ fun x H1 st1 => by
    obtain ⟨e0, ty⟩ := ST.isW (X := X) l st1 h0
    subst e0
    refine ⟨ty, he E (_ :: T) (_ :: t) σ H1 (by simp [l]) st1 _ fun y H2 st2 => ?_⟩
    have st3 : ST E (some B :: (T ++ ρ1)) (some y :: (t ++ σ)) H2 := by
      exact ST.drop2 st2
    obtain ⟨p, vs, e1, h2, hl, go⟩ := ST.modW l st3 h1
    refine ⟨p, vs, y, e1, rfl, h2, by rw [hl]; exact hz, k _ _ ?_⟩
    have st4 := go (As ++ [B]) (vs ++ [y]) fun G H F1 F2 c q => ⟨F1 ++ F2, fun b hb => hb, fun n => n, by simpa using c.append (Cs.ofNil q)⟩
    obtain ⟨G, F, f, c⟩ := st4
    exact ST.put f c .non)
theorem xe_appendDW {α : Type} {cv : α → PyData} {xs : List α} {x : α} (ho : XE X o ρ ρ (aV v0)) (h0 : Own ρ v0 (aL As0) w0) (he : XE X e ρ ρ1 (aD X.K (cv x))) (h1 : Own ρ1 v0 (aLD X.K (xs.map cv)) w) (hz : xs.length < sizeLine)
    (hbase : attributeBase o "append" X.env (eval o X.env) = eval o X.env := by rfl) (hfew : ((backTo cpos (starEach [e] X.env)).all (fun x => !x.1) && (backToKw cpos (keywordEach [] X.env)).all (fun x => x.1.isSome) && decide ([e].length + ([] : List Keyword).length + (if ([] : List Keyword).isEmpty then 0 else 1) < 30)) = true := by rfl)
    (hline : (apos.endLine == cpos.line) = true := by rfl) (hs : starEach [e] X.env = (false, eval e X.env) :: starEach [] X.env := by rfl) (hplain : (backTo cpos (starEach [] X.env)).any (·.1) = false := by rfl) :
    XE X (.Call (.Attribute o "append" apos) [e] [] cpos) ρ (w (aLD X.K ((xs ++ [x]).map cv))) (aD X.K .none) := by
  have q := xe_appendW (apos := apos) (cpos := cpos) ho h0 he h1 (by simpa using hz) hbase hfew hline hs hplain
  have e : (xs.map cv).map (aD X.K) ++ [aD X.K (cv x)] = ((xs ++ [x]).map cv).map (aD X.K) := by simp
  rwa [e] at q
theorem xp_setLW {j : Nat} {n : Int} (ho : XE X o ρ ρ (aV v0)) (hb : XE X b ρ ρ1 (aD X.K (.int n))) (h1 : Own ρ1 v0 (aL As) w) (hn : ixN As.length n = some j)
    (ha : ∀ v, assign (.Subscript o b pos) X.env v = (do
      let ov ← holding [v] (eval o X.env)
      let iv ← holding [v, ov] (eval b X.env)
      standAt pos
      holding [v, ov, iv] (setItem ov iv v)
      release [v, ov, iv] []) := by intro _; rfl) : XP X (.Subscript o b pos) B ρ (w (aL (As.set j B))) := fun E T t σ H v l st Q k =>
  wG.of (pg_sub peS peS set_list ha) (ho E (_ :: T) (_ :: t) σ H (by simp [l]) st _ fun x H1 st1 => by
    refine hb E (_ :: _ :: T) (_ :: _ :: t) σ H1 (by simp [l]) st1 _ fun y H2 st2 => ?_
    obtain ⟨G, F, f, c, q1⟩ := ST.top st2
    cases q1
    obtain ⟨u, F1, F2, e1, e2, ⟨e3, e4⟩, c⟩ := c
    cases e1
    subst e4 e2 e3
    obtain ⟨p, vs, e5, h2, hl, go⟩ := ST.modW l ⟨G, _, f, c⟩ h1
    have hj : j < As.length := by
      unfold ixN at hn
      split at hn
      · split at hn
        · cases hn; omega
        · cases hn
      · split at hn
        · cases hn; omega
        · cases hn
    exact ⟨p, vs, n, j, e5, rfl, h2, by rw [hl]; exact hn, k _ _ (go _ _ fun G H F1 F2 c q => cs_set hj c q)⟩)
theorem xp_setDW {α : Type} {cv : α → PyData} {xs : List α} {x : α} {v0 : V} {j : Nat} {n : Int} (ho : XE X o ρ ρ (aV v0)) (hb : XE X b ρ ρ1 (aD X.K (.int n))) (h1 : Own ρ1 v0 (aLD X.K (xs.map cv)) w) (hn : ixN xs.length n = some j)
    (ha : ∀ v, assign (.Subscript o b pos) X.env v = (do
      let ov ← holding [v] (eval o X.env)
      let iv ← holding [v, ov] (eval b X.env)
      standAt pos
      holding [v, ov, iv] (setItem ov iv v)
      release [v, ov, iv] []) := by intro _; rfl) : XP X (.Subscript o b pos) (aD X.K (cv x)) ρ (w (aLD X.K ((xs.set j x).map cv))) := by
  have q := xp_setLW (B := aD X.K (cv x)) ho hb h1 (by simpa using hn) ha
  have e : ((xs.map cv).map (aD X.K)).set j (aD X.K (cv x)) = ((xs.set j x).map cv).map (aD X.K) := by simp [List.map_set]
  rwa [e] at q
variable {α : Type} {cv : α → PyData} {xs : List α}
theorem xe_popAtW {n : Int} {r : α × List α} (hr : popL xs n = some r) (ho : XE X o ρ ρ (aV v0)) (h0 : Own ρ v0 (aL As0) w0) (he : XE X e ρ ρ1 (aD X.K (.int n))) (h1 : Own ρ1 v0 (aLD X.K (xs.map cv)) w)
    (hbase : attributeBase o "pop" X.env (eval o X.env) = eval o X.env := by rfl) (hfew : ((backTo cpos (starEach [e] X.env)).all (fun x => !x.1) && (backToKw cpos (keywordEach [] X.env)).all (fun x => x.1.isSome) && decide ([e].length + ([] : List Keyword).length + (if ([] : List Keyword).isEmpty then 0 else 1) < 30)) = true := by rfl)
    (hline : (apos.endLine == cpos.line) = true := by rfl) (hs : starEach [e] X.env = (false, eval e X.env) :: starEach [] X.env := by rfl) (hplain : (backTo cpos (starEach [] X.env)).any (·.1) = false := by rfl) :
    XE X (.Call (.Attribute o "pop" apos) [e] [] cpos) ρ (w (aLD X.K (r.2.map cv))) (aD X.K (cv r.1)) := fun E T t σ H l st Q k =>
  wE.of (pe_bm PySem.F.plainAttrs_list PySem.F.slot_list_pop PySem.F.type_list_pop mt_popAt peS (pa_cons peS pa_nil hs) hbase hfew hline hs hplain) (ho E T t σ H l st _ fun x H1 st1 => by
    obtain ⟨e0, ty⟩ := ST.isW (X := X) l st1 h0
    subst e0
    refine ⟨ty, he E (_ :: T) (_ :: t) σ H1 (by simp [l]) st1 _ fun y H2 st2 => ?_⟩
    obtain ⟨G, F, f, c, q1⟩ := ST.top st2
    cases q1
    have st3 : ST E (T ++ ρ1) (t ++ σ) H2 := ST.pop (A := aV x) (x := some x) ⟨G, F, f, c⟩
    clear c f
    obtain ⟨G1, Fg, f, c⟩ := st3
    obtain ⟨F1, F2, e2, ⟨p, vs, F', e4, e5, h3, c1⟩, _⟩ := h1.get l c
    subst e4
    obtain ⟨q1, q2⟩ := csD c1
    obtain ⟨b1, b2, k0, hk, hx, er⟩ := popL_eq hr
    obtain ⟨v, hv, qv⟩ := q1.get (i := k0) (d := cv r.1) (by rw [List.getElem?_map, hx]; rfl)
    have st4 : ST E (some (aD X.K .none) :: ((some (aD X.K (cv r.1)) :: T) ++ ρ1)) (some .non :: ((some v :: t) ++ σ)) H2 := ST.putN X.K (ST.put f c qv)
    obtain ⟨p', vs', e6, h4, hl, go⟩ := ST.modW (T := some (aD X.K (cv r.1)) :: T) (t := some v :: t) (by simp [l]) st4 h1
    cases e6
    rw [h3] at h4
    cases h4
    refine ⟨p, vs, n, k0, v, rfl, rfl, h3, b1, b2, by rw [q1.map_eq]; exact hk, hv, k _ _ ?_⟩
    refine go ((r.2.map cv).map (aD X.K)) (vs.eraseIdx k0) fun G H F1 F2 c q => ?_
    obtain ⟨q3, q4⟩ := csD c
    refine ⟨[], fun b hb => by simp at hb, fun _ => by simp, csD' ?_⟩
    rw [er, map_erase]
    exact dq_erase k0 q3)
theorem xe_insertDW {n : Int} {x : α} {r : List α} (hr : insL xs n x = some r) (ho : XE X o ρ ρ (aV v0)) (h0 : Own ρ v0 (aL As0) w0) (he : XE X e ρ ρ1 (aD X.K (.int n))) (hb : XE X b ρ1 ρ2 (aD X.K (cv x))) (h1 : Own ρ2 v0 (aLD X.K (xs.map cv)) w)
    (hbase : attributeBase o "insert" X.env (eval o X.env) = eval o X.env := by rfl) (hfew : ((backTo cpos (starEach [e, b] X.env)).all (fun x => !x.1) && (backToKw cpos (keywordEach [] X.env)).all (fun x => x.1.isSome) && decide ([e, b].length + ([] : List Keyword).length + (if ([] : List Keyword).isEmpty then 0 else 1) < 30)) = true := by rfl)
    (hline : (apos.endLine == cpos.line) = true := by rfl) (hs : starEach [e, b] X.env = (false, eval e X.env) :: starEach [b] X.env := by rfl) (hs2 : starEach [b] X.env = [(false, eval b X.env)] := by rfl) (hplain : (backTo cpos (starEach [b] X.env)).any (·.1) = false := by rfl) :
    XE X (.Call (.Attribute o "insert" apos) [e, b] [] cpos) ρ (w (aLD X.K (r.map cv))) (aD X.K .none) := fun E T t σ H l st Q k =>
  wE.of (pe_bm PySem.F.plainAttrs_list PySem.F.slot_list_insert PySem.F.type_list_insert mt_insert peS (pa_cons peS (pa_cons peS pa_nil hs2) (by rw [hs])) hbase hfew hline hs hplain) (ho E T t σ H l st _ fun y H1 st1 => by
    obtain ⟨e0, ty⟩ := ST.isW (X := X) l st1 h0
    subst e0
    refine ⟨ty, he E (_ :: T) (_ :: t) σ H1 (by simp [l]) st1 _ fun z H2 st2 => hb E (_ :: _ :: T) (_ :: _ :: t) σ H2 (by simp [l]) st2 _ fun u H3 st3 => ?_⟩
    have st4 : ST E (some (aD X.K (cv x)) :: some (aD X.K (.int n)) :: (T ++ ρ2)) (some u :: some z :: (t ++ σ)) H3 := by
      obtain ⟨G, F, f, w, F1, F2, e1, e2, q, w2, F3, F4, e3, e4, q2, w5, F5, F6, e5, e6, q5, c⟩ := st3
      subst e6 e4 e2
      exact ⟨G, F1 ++ (F3 ++ F6), f.less (List.Sublist.append_left (List.Sublist.append_left (List.sublist_append_right _ _) F3) F1), w, F1, _, e1, rfl, q, w2, F3, F6, e3, rfl, q2, c⟩
    have ez : z = .int n := by
      obtain ⟨G, F, f, c, q1, q2⟩ := ST.top2 st4
      cases q1
      rfl
    subst ez
    have st5 := ST.drop2 st4
    obtain ⟨p, vs, e1, h2, hl, go⟩ := ST.modW l st5 h1
    obtain ⟨⟨b1, b2, b3⟩, er⟩ := insL_eq hr
    refine ⟨p, vs, n, u, e1, rfl, h2, by rw [hl]; simp; exact sz_lt b1, b2, b3, k _ _ ?_⟩
    have st6 := go ((r.map cv).map (aD X.K)) (vs.take n.toNat ++ [u] ++ vs.drop n.toNat) fun G H F1 F2 c q => by
      obtain ⟨q3, q4⟩ := csD c
      obtain ⟨q5, q6⟩ := q
      refine ⟨[], fun b hb => by simp at hb, fun _ => by simp, csD' ?_⟩
      rw [er]
      simp only [List.map_append, List.map_take, List.map_drop, List.map_cons, List.map_nil]
      exact ((q3.take _).append (.cons q5 .nil)).append (q3.drop _)
    exact ST.putN X.K st6)
theorem xe_extendDW {ys : List α} (hz : xs.length + ys.length ≤ 1000000) (ho : XE X o ρ ρ (aV v0)) (h0 : Own ρ v0 (aL As0) w0) (he : XE X e ρ ρ1 A) (r : Rlm X.K ρ1 A (ys.map cv)) (h1 : Own ρ1 v0 (aLD X.K (xs.map cv)) w)
    (hbase : attributeBase o "extend" X.env (eval o X.env) = eval o X.env := by rfl) (hfew : ((backTo cpos (starEach [e] X.env)).all (fun x => !x.1) && (backToKw cpos (keywordEach [] X.env)).all (fun x => x.1.isSome) && decide ([e].length + ([] : List Keyword).length + (if ([] : List Keyword).isEmpty then 0 else 1) < 30)) = true := by rfl)
    (hline : (apos.endLine == cpos.line) = true := by rfl) (hs : starEach [e] X.env = (false, eval e X.env) :: starEach [] X.env := by rfl) (hplain : (backTo cpos (starEach [] X.env)).any (·.1) = false := by rfl) :
    XE X (.Call (.Attribute o "extend" apos) [e] [] cpos) ρ (w (aLD X.K ((xs ++ ys).map cv))) (aD X.K .none) := fun E T t σ H l st Q k =>
  wE.of (pe_bm PySem.F.plainAttrs_list PySem.F.slot_list_extend PySem.F.type_list_extend mt_extend peS (pa_cons peS pa_nil hs) hbase hfew hline hs hplain) (ho E T t σ H l st _ fun x H1 st1 => by
    obtain ⟨e0, ty⟩ := ST.isW (X := X) l st1 h0
    subst e0
    refine ⟨ty, he E (_ :: T) (_ :: t) σ H1 (by simp [l]) st1 _ fun y H2 st2 => ?_⟩
    have st3 := ST.drop2 st2
    obtain ⟨G, F, Fv, f, cs, q⟩ := ST.one st3
    obtain ⟨p2, us, e1, e2, e3⟩ := r l cs f.gh q
    have st4 : ST E (some (aAll X.K us (ys.map cv)) :: (T ++ ρ1)) (some .non :: (t ++ σ)) H2 := ⟨G, F, f, .non, [], F, rfl, rfl, ⟨e3, rfl⟩, cs⟩
    obtain ⟨p, vs, e6, h4, hl, go⟩ := ST.modW l st4 h1
    have hvl : vs.length = xs.length := by simpa using hl
    have hul : us.length = ys.length := by simpa using e3.len
    refine ⟨p, p2, vs, us, e6, by rw [e1], h4, e2, by rw [hvl, hul]; exact sz_of hz, k _ _ ?_⟩
    exact ST.putN X.K (go (((xs ++ ys).map cv).map (aD X.K)) (vs ++ us) fun G H F1 F2 c q => by
      obtain ⟨q3, q4⟩ := csD c
      obtain ⟨q5, q6⟩ := q
      refine ⟨[], fun b hb => by simp at hb, fun _ => by simp, csD' ?_⟩
      rw [List.map_append]
      exact q3.append q5))
end
end Mr

set_option Elab.async false
set_option linter.all false
set_option maxRecDepth 100000
/-! attributes, instances made, methods -/
namespace Mr
open PySem PySem.Spec PyProof.Rows L2
theorem lookup_zip {f : Str} : ∀ {ns : List Str} {vs : List V} {k : Nat} {v : V}, ns.Nodup → ns[k]? = some f → vs[k]? = some v → (ns.zip vs).lookup f = some v
  | [], _, _, _, _, h, _ => by simp at h
  | _ :: _, [], _, _, _, _, h => by simp at h
  | n :: ns, u :: vs, 0, v, _, h, h2 => by
    have e1 : n = f := by simpa using h
    have e2 : u = v := by simpa using h2
    subst e1 e2
    have hb : (n == n) = true := beq_iff_eq.mpr rfl
    show List.lookup n ((n, u) :: ns.zip vs) = _
    simp only [List.lookup, hb]
  | n :: ns, u :: vs, k + 1, v, nd, h, h2 => by
    have h : ns[k]? = some f := by simpa using h
    have h2 : vs[k]? = some v := by simpa using h2
    have ne : f ≠ n := fun e => (List.nodup_cons.mp nd).1 (e ▸ List.mem_of_getElem? h)
    have hb : (f == n) = false := beq_eq_false_iff_ne.mpr ne
    show List.lookup f ((n, u) :: ns.zip vs) = _
    simp only [List.lookup, hb]
    exact lookup_zip (List.nodup_cons.mp nd).2 h h2
theorem lookup_no {f : Str} : ∀ {ns : List Str} {vs : List V}, f ∉ ns → (ns.zip vs).lookup f = none
  | [], _, _ => rfl
  | _ :: _, [], _ => rfl
  | n :: ns, u :: vs, h => by
    have hb : (f == n) = false := beq_eq_false_iff_ne.mpr fun e => h (by simp [e])
    show List.lookup f ((n, u) :: ns.zip vs) = _
    simp only [List.lookup, hb]
    exact lookup_no fun q => h (by simp [q])
theorem putF_zip {f : Str} {y : V} : ∀ {ns : List Str} {vs : List V} {k : Nat}, ns.Nodup → ns[k]? = some f → vs.length = ns.length → putF f y (ns.zip vs) = ns.zip (vs.set k y)
  | [], _, _, _, h, _ => by simp at h
  | _ :: _, [], _, _, _, h => by simp at h
  | n :: ns, u :: vs, 0, _, h, _ => by
    have e1 : n = f := by simpa using h
    subst e1
    show (if n = n then (n, y) :: ns.zip vs else _) = _
    rw [if_pos rfl]
    rfl
  | n :: ns, u :: vs, k + 1, nd, h, hl => by
    have h : ns[k]? = some f := by simpa using h
    have ne : n ≠ f := fun e => (List.nodup_cons.mp nd).1 (e ▸ List.mem_of_getElem? h)
    show (if n = f then _ else (n, u) :: putF f y (ns.zip vs)) = _
    rw [if_neg ne, putF_zip (List.nodup_cons.mp nd).2 h (by simpa using hl)]
    rfl
theorem putF_new {f : Str} {y : V} : ∀ {ns : List Str} {vs : List V}, f ∉ ns → vs.length = ns.length → putF f y (ns.zip vs) = (ns ++ [f]).zip (vs ++ [y])
  | [], [], _, _ => rfl
  | [], _ :: _, _, h => by simp at h
  | _ :: _, [], _, h => by simp at h
  | n :: ns, u :: vs, h, hl => by
    have ne : n ≠ f := fun e => h (by simp [e])
    show (if n = f then _ else (n, u) :: putF f y (ns.zip vs)) = _
    rw [if_neg ne, putF_new (fun q => h (by simp [q])) (by simpa using hl)]
    rfl
section
variable {X : Cx} {ρ ρ1 ρ2 ρ3 : Cl} {a b c e o : Expr} {pos pos' tpos p apos cpos : Pos} {A B : OA} {As As0 : List OA} {d : PyData} {ds : List PyData} {a0 v0 : V} {w w0 : OA → Cl} {C : Addr} {ns : List Str} {f : Str} {ω : Type} {rest : List Stmt} {m : Option ω} {Φ : ω → Ent → Ends → Prop}
/-- o.f, data -/
theorem xe_fldD (k : Nat) (ho : XE X o ρ ρ1 (aV a0)) (O : Own ρ1 a0 (aObj C ns As) w) (c : Cls X.K C) (n : NoAttr X.K C f) (nd : ns.Nodup) (hf : ns[k]? = some f) (hk : As[k]? = some (aD X.K d)) (hb : attributeBase o f X.env (eval o X.env) = eval o X.env := by rfl) : XE X (.Attribute o f pos) ρ ρ1 (aD X.K d) := fun E T t σ H l st Q kk =>
  wE.of (pe_fld peS hb) (ho E T t σ H l st _ fun x H1 st1 => by
    obtain ⟨G, F, Fv, fr, cs, e0, _⟩ := ST.one st1
    subst e0
    obtain ⟨F1, F2, e1, ⟨p, dx, vs, F', e2, e3, h1, hl, c1⟩, go⟩ := O.get l cs
    obtain ⟨v, hv, hq⟩ := c1.getD hk
    exact ⟨p, C, dx, _, v, e2, h1, c, n, lookup_zip nd hf hv, kk v H1 (ST.put fr cs hq)⟩)
/-- o.f, owned -/
theorem xe_fldV (k : Nat) (ho : XE X o ρ ρ1 (aV a0)) (O : Own ρ1 a0 (aObj C ns As) w) (c : Cls X.K C) (n : NoAttr X.K C f) (nd : ns.Nodup) (hf : ns[k]? = some f) (hk : As[k]? = some (pin v0 A)) (hb : attributeBase o f X.env (eval o X.env) = eval o X.env := by rfl) : XE X (.Attribute o f pos) ρ ρ1 (aV v0) := fun E T t σ H l st Q kk =>
  wE.of (pe_fld peS hb) (ho E T t σ H l st _ fun x H1 st1 => by
    obtain ⟨G, F, Fv, fr, cs, e0, _⟩ := ST.one st1
    subst e0
    obtain ⟨F1, F2, e1, ⟨p, dx, vs, F', e2, e3, h1, hl, c1⟩, go⟩ := O.get l cs
    obtain ⟨v, Fa, Fb, hv, e4, ⟨e5, hq⟩, c2⟩ := c1.getP hk
    subst e5
    exact ⟨p, C, dx, _, v, e2, h1, c, n, lookup_zip nd hf hv, kk v H1 ⟨G, F, fr, v, [], F, rfl, rfl, ⟨rfl, rfl⟩, cs⟩⟩)
theorem ST.pinT {E : Ent} {L : Cl} {Cc : L2.St} {H : Hp} {y : V} (st : ST E (some B :: L) (some y :: Cc) H) : ST E (some (pin y B) :: L) (some y :: Cc) H := by
  obtain ⟨G, F, f, w, F1, F2, e1, e2, q, c⟩ := st
  cases e1
  exact ⟨G, F, f, y, F1, F2, rfl, e2, ⟨rfl, q⟩, c⟩
/-- o.f = e -/
theorem xg_fld (k : Nat) (he : XE X e ρ ρ1 B) (ho : XE X o ρ1 ρ1 (aV a0)) (O : Own ρ1 a0 (aObj C ns As) w) (c : Cls X.K C) (n : NoAttr X.K C f) (nd : ns.Nodup) (hf : ns[k]? = some f) (h : XG X rest (w (aObj C ns (As.set k B))) m Φ) (hz : ns.length < 1000 := by exact Nat.le_of_ble_eq_true rfl)
    (hs : swapsWith e (some (.Attribute o f pos')) pos.line X.env = pure false := by rfl) : XG X (.Assign [.Attribute o f pos'] e pos :: rest) ρ m Φ := fun r hr E σ H D st q =>
  wS.of (pss_cons (ps_fld peS peS hs) pssS) (he E [] [] σ H rfl st _ fun y H1 st1 => ho E [_] [_] σ H1 rfl st1 _ fun x H2 st2 => by
    have ex : x = a0 := by
      obtain ⟨G, F, Fv, f, cs, e0, _⟩ := ST.one st2
      exact e0
    subst ex
    obtain ⟨p, dx, vs, e1, h1, hl, hl2, go⟩ := ST.modO (T := []) (t := []) rfl (ST.pop st2) O
    have hk := lt_of_get hf
    refine ⟨p, C, dx, _, e1, h1, c, n, by rw [List.length_zip]; omega, ?_⟩
    rw [putF_zip nd hf hl]
    exact h r hr E σ _ D (go ns _ _ (by rw [List.length_set]; exact hl) fun G H F1 F2 c q => cs_set (by omega) c q) q)
/-- .. the thing is owned: its value is named -/
theorem xg_fldP (k : Nat) (he : XE X e ρ ρ1 B) (ho : XE X o ρ1 ρ1 (aV a0)) (O : Own ρ1 a0 (aObj C ns As) w) (c : Cls X.K C) (n : NoAttr X.K C f) (nd : ns.Nodup) (hf : ns[k]? = some f) (h : ∀ y, XG X rest (w (aObj C ns (As.set k (pin y B)))) m Φ) (hz : ns.length < 1000 := by exact Nat.le_of_ble_eq_true rfl)
    (hs : swapsWith e (some (.Attribute o f pos')) pos.line X.env = pure false := by rfl) : XG X (.Assign [.Attribute o f pos'] e pos :: rest) ρ m Φ := fun r hr E σ H D st q =>
  wS.of (pss_cons (ps_fld peS peS hs) pssS) (he E [] [] σ H rfl st _ fun y H1 st1 => ho E [_] [_] σ H1 rfl st1 _ fun x H2 st2 => by
    have ex : x = a0 := by
      obtain ⟨G, F, Fv, f, cs, e0, _⟩ := ST.one st2
      exact e0
    subst ex
    obtain ⟨p, dx, vs, e1, h1, hl, hl2, go⟩ := ST.modO (T := []) (t := []) rfl (ST.pinT (ST.pop st2)) O
    have hk := lt_of_get hf
    refine ⟨p, C, dx, _, e1, h1, c, n, by rw [List.length_zip]; omega, ?_⟩
    rw [putF_zip nd hf hl]
    exact h y r hr E σ _ D (go ns _ _ (by rw [List.length_set]; exact hl) fun G H F1 F2 c q => cs_set (by omega) c q) q)
/-- .. an attribute that is not there yet -/
theorem xg_fldN (he : XE X e ρ ρ1 B) (ho : XE X o ρ1 ρ1 (aV a0)) (O : Own ρ1 a0 (aObj C ns As) w) (c : Cls X.K C) (n : NoAttr X.K C f) (hf : f ∉ ns) (h : XG X rest (w (aObj C (ns ++ [f]) (As ++ [B]))) m Φ) (hz : ns.length < 1000 := by exact Nat.le_of_ble_eq_true rfl)
    (hs : swapsWith e (some (.Attribute o f pos')) pos.line X.env = pure false := by rfl) : XG X (.Assign [.Attribute o f pos'] e pos :: rest) ρ m Φ := fun r hr E σ H D st q =>
  wS.of (pss_cons (ps_fld peS peS hs) pssS) (he E [] [] σ H rfl st _ fun y H1 st1 => ho E [_] [_] σ H1 rfl st1 _ fun x H2 st2 => by
    have ex : x = a0 := by
      obtain ⟨G, F, Fv, f, cs, e0, _⟩ := ST.one st2
      exact e0
    subst ex
    obtain ⟨p, dx, vs, e1, h1, hl, hl2, go⟩ := ST.modO (T := []) (t := []) rfl (ST.pop st2) O
    refine ⟨p, C, dx, _, e1, h1, c, n, by rw [List.length_zip]; omega, ?_⟩
    rw [putF_new hf hl]
    exact h r hr E σ _ D (go _ _ _ (by simp [hl]) fun G H F1 F2 c q => ⟨F1 ++ F2, fun b hb => hb, fun n => n, by simpa using c.append (Cs.ofNil q)⟩) q)
/-- o.f += e | o.f -= e, ints -/
theorem xg_fldA {op : Operator} {g : Int → Int → Int} {rd : V → V → Hp → VK → Prop} {x z : Int} (k : Nat) (hop : InOp X op rd) (hrd : ∀ i j H Q, Q (.int (g i j)) H → rd (.int i) (.int j) H Q) (ho : XE X o ρ ρ (aV a0)) (O0 : Own ρ a0 (aObj C ns As0) w0) (hk0 : As0[k]? = some (aD X.K (.int x))) (he : XE X e ρ ρ1 (aD X.K (.int z))) (O : Own ρ1 a0 (aObj C ns As) w)
    (c : Cls X.K C) (n : NoAttr X.K C f) (nd : ns.Nodup) (hf : ns[k]? = some f) (h : XG X rest (w (aObj C ns (As.set k (aD X.K (.int (g x z)))))) m Φ) (hz : ns.length < 1000 := by exact Nat.le_of_ble_eq_true rfl) : XG X (.AugAssign (.Attribute o f tpos) op e pos :: rest) ρ m Φ := fun r hr E σ H D st q =>
  wS.of (pss_cons (ps_fldaug peS peS hop) pssS) (ho E [] [] σ H rfl st _ fun u H1 st1 => by
    obtain ⟨G, F, Fv, fr, cs, e0, _⟩ := ST.one st1
    subst e0
    have st2 : ST E ρ σ H1 := ST.pop st1
    obtain ⟨F1, F2, e1, ⟨p, dx, vs, F', e2, e3, h1, hl, c1⟩, go⟩ := O0.get (T := []) (t := []) rfl cs
    obtain ⟨v, hv, hq⟩ := c1.getD hk0
    cases hq
    subst e2
    refine ⟨p, C, dx, _, .int x, rfl, h1, c, n, lookup_zip nd hf hv, he E [] [] σ H1 rfl st2 _ fun y H2 st3 => ?_⟩
    obtain ⟨G2, F3, fr2, cs2, q2⟩ := ST.top st3
    cases q2
    refine hrd _ _ _ _ ?_
    obtain ⟨p', dx', vs', e4, h2, hl', hl2, go2⟩ := ST.modO (T := []) (t := []) rfl (ST.put (K := X.K) (v := .int (g x z)) fr2 cs2 (.int _)) O
    cases e4
    have hkk := lt_of_get hf
    refine ⟨dx', _, h2, by rw [List.length_zip]; omega, ?_⟩
    rw [putF_zip nd hf hl']
    exact h r hr E σ _ D (go2 ns _ _ (by rw [List.length_set]; exact hl') fun G H F1 F2 c q => cs_set (by omega) c q) q)
end
theorem rAdd_of (i j : Int) (H : Hp) (Q : VK) (h : Q (.int (i + j)) H) : rAdd (.int i) (.int j) H Q := ⟨i, j, rfl, rfl, h⟩
theorem rSub_of (i j : Int) (H : Hp) (Q : VK) (h : Q (.int (i - j)) H) : rSub (.int i) (.int j) H Q := ⟨i, j, rfl, rfl, h⟩

/-! ### methods -/
structure CalM (P : Program) (w : World) (K : PySem.W.Frag) (mg : Str → Option Value) (base : Heap) (k : Nat) (C : Addr) (x : Str) (sp : Sp) : Prop where
  ex : ∃ (f : Addr) (fd : FuncData) (ps : List Str), FnOk P w K mg base CX0 k f fd ps sp ∧ Meth K C x f ∧ Binds K fd ps []
structure CalC (P : Program) (w : World) (K : PySem.W.Frag) (mg : Str → Option Value) (base : Heap) (k : Nat) (C : Addr) (x : Str) (sp : Sp) : Prop where
  ex : ∃ (f : Addr) (fd : FuncData) (ps : List Str), FnOk P w K mg base CX0 k f fd ps sp ∧ mg x = some (.ref C) ∧ Mk K C f ∧ Binds K fd ps []
section
variable {X : Cx} {ρ ρ1 ρ2 ρ3 : Cl} {a b c e o : Expr} {es : List Expr} {pos p apos : Pos} {A A0 B : OA} {As As0 : List OA} {ls : List (Nat × Nat × V)} {δ γ : Type} {pre : δ → List OA} {m : δ → Option γ} {post : δ → γ → Cl} {ret : δ → γ → OA} {a0 : V} {w w0 : OA → Cl} {C : Addr} {ns : List Str} {x : Str} {xx : δ} {r : γ} {Po : Cl}
theorem meth_core {E : Ent} {T : Cl} {t σ : L2.St} {H : Hp} {vs : List V} {Q : VK} {XE' : XK} (l : T.length = t.length) (hl : vs.length = As.length) (st : ST E (As.map some ++ (T ++ ρ1)) (vs.map some ++ (t ++ σ)) H) (hv : ∀ p ∈ ls, vs[p.1]? = some p.2.2 ∧ σ[p.2.1]? = some (some p.2.2)) (O : Own ρ1 a0 A0 w)
    (hm : m xx = some r) (hpre : pre xx = A0 :: As) (hpost : post xx r = some B :: Po) (hP : Po.length = As.length) (n1 : (ls.map (·.1)).Nodup) (n2 : (ls.map (·.2.1)).Nodup) (hls : ∀ p ∈ ls, (w B)[p.2.1]? = some none)
    (kk : ∀ v H', ST E (some (ret xx r) :: (T ++ backs Po ls (w B))) (some v :: (t ++ σ)) H' → Q v H') : SpM pre m post ret (a0 :: vs) H Q XE' := by
  obtain ⟨G, F, f, c⟩ := st
  obtain ⟨F1, F2, e1, c1, c2⟩ := c.unappend (by simp [hl])
  subst e1
  obtain ⟨Fo, Fr, e2, qo, go⟩ := O.get l c2
  have pm : (F1 ++ F2).Perm ((Fo ++ F1) ++ Fr) := by
    refine (List.Perm.append_left F1 e2).trans ?_
    rw [← List.append_assoc]
    exact List.Perm.append_right Fr List.perm_append_comm
  have f1 := f.perm pm
  refine ⟨xx, r, G, Fo ++ F1, hm, (f1.less (List.sublist_append_left _ _)).start, ?_, by rw [hpre]; simp [hl], fun v H2 st2 => kk v H2 ?_⟩
  · rw [hpre]
    exact ⟨a0, Fo, F1, rfl, rfl, qo, c1⟩
  · obtain ⟨G2, F3, f3, v', F4, F5, e3, e4, q, c3⟩ := st2
    cases e3
    subst e4
    rw [hpost] at c3
    obtain ⟨u, FB, FP, e5, e6, qB, c4⟩ := c3
    cases e5
    subst e6
    obtain ⟨f4, keep⟩ := f.step pm f3
    obtain ⟨F', e7, c5⟩ := go f3.gg f3.gh keep qB
    have c6 := c4.append c5
    have n5 : (F4 ++ (FB ++ FP) ++ Fr).Nodup := f4.nd
    have pm2 : (F4 ++ (FB ++ FP) ++ Fr).Perm (F4 ++ (FP ++ F')) := by
      rw [List.append_assoc]
      refine List.Perm.append_left F4 ?_
      have q1 : (FB ++ FP ++ Fr).Perm (FP ++ FB ++ Fr) := List.Perm.append_right Fr List.perm_append_comm
      refine q1.trans ?_
      rw [List.append_assoc]
      exact List.Perm.append_left FP e7.symm
    have n6 := (pm2.nodup_iff).mp n5
    obtain ⟨m1, m2, m3⟩ := List.nodup_append.mp n6
    obtain ⟨F6, ha, hb, c7⟩ := cs_backs l ls Po (w B) _ (hP.trans hl.symm) n1 (fun p hp => ⟨(hv p hp).1, (hv p hp).2, hls p hp⟩) n2 c6 m2
    exact ⟨G2, F4 ++ F6, (f4.perm pm2).sub (List.nodup_append.mpr ⟨m1, ha, fun x hx y hy => m3 x hx y (hb y hy)⟩) (fun x hx => by
      rcases List.mem_append.mp hx with z | z
      · exact List.mem_append_left _ z
      · exact List.mem_append_right _ (hb x z)), v, F4, F6, rfl, rfl, q, c7⟩
/-- o.m(e, ..) -/
theorem xe_meth {k : Nat} {ρo : Cl} {pl : Sem Bool} (M : CalM X.prog X.w X.K X.mg X.base k C x (SpM pre m post ret)) (cl : Cls X.K C) (hn : x ∉ ns) (hr : Room k X.A) (hm : m xx = some r) (ho : XE X o ρ ρ (aV a0)) (O0 : Own ρ a0 (aObj C ns As0) w0) (ha : XL X (e :: es) ρ ρ1 As ls) (O : Own ρ1 a0 A0 w)
    (hpre : pre xx = A0 :: As) (hpost : post xx r = some B :: Po) (hP : Po.length = As.length) (n1 : (ls.map (·.1)).Nodup) (n2 : (ls.map (·.2.1)).Nodup) (hls : ∀ p ∈ ls, (w B)[p.2.1]? = some none) (hA : ret xx r = A) (hb : backs Po ls (w B) = ρo)
    (hst : starEach (e :: es) X.env = (false, eval e X.env) :: starEach es X.env := by rfl) (hpl : (backTo pos (starEach es X.env)).any (·.1) = false := by rfl)
    (ht : eval (.Call (.Attribute o x apos) (e :: es) [] pos) X.env = (do
      let ov ← eval o X.env
      standAt apos.atName
      let (f, first) ← holding [ov] (getMethod ov x pl)
      callWith pos f first (backTo pos (starEach (e :: es) X.env)) (backToKw pos (keywordEach [] X.env))) := by rfl) :
    XE X (.Call (.Attribute o x apos) (e :: es) [] pos) ρ ρo A := fun E T t σ H l st Q kk => by
  subst hA hb
  obtain ⟨f, fd, ps, F, h1, h2⟩ := M.ex
  refine wE.of (pe_meth (E := fun _ _ _ => False) peS cl h1 F hr h2 .nil pass0 paS hst hpl ht) (ho E T t σ H l st _ fun u H1 st1 => ?_)
  obtain ⟨G, Fa, Fv, fr, cs, e0, _⟩ := ST.one st1
  subst e0
  obtain ⟨F1, F2, e1, ⟨p, dx, vs, F', e2, e3, h3, hl, c1⟩, go⟩ := O0.get l cs
  refine ⟨p, dx, _, e2, h3, lookup_no hn, ha E T t σ H1 l (ST.pop st1) _ fun vs H2 hl hv st2 => ?_⟩
  rw [List.append_nil]
  exact meth_core (XE' := fun _ _ _ => False) l hl st2 hv O hm hpre hpost hP n1 n2 hls kk
/-- o.m() -/
theorem xe_meth0 {k : Nat} {ρo : Cl} {pl : Sem Bool} (M : CalM X.prog X.w X.K X.mg X.base k C x (SpM pre m post ret)) (cl : Cls X.K C) (hn : x ∉ ns) (hr : Room k X.A) (hm : m xx = some r) (ho : XE X o ρ ρ (aV a0)) (O : Own ρ a0 (aObj C ns As0) w)
    (hpre : pre xx = [aObj C ns As0]) (hpost : post xx r = [some B]) (hA : ret xx r = A) (hb : w B = ρo)
    (ht : eval (.Call (.Attribute o x apos) [] [] pos) X.env = (do
      let ov ← eval o X.env
      standAt apos.atName
      let (f, first) ← holding [ov] (getMethod ov x pl)
      callWith pos f first (backTo pos (starEach [] X.env)) (backToKw pos (keywordEach [] X.env))) := by rfl) :
    XE X (.Call (.Attribute o x apos) [] [] pos) ρ ρo A := fun E T t σ H l st Q kk => by
  subst hA hb
  obtain ⟨f, fd, ps, F, h1, h2⟩ := M.ex
  refine wE.of (pe_meth0 (E := fun _ _ _ => False) peS cl h1 F hr h2 .nil pass0 ht) (ho E T t σ H l st _ fun u H1 st1 => ?_)
  obtain ⟨G, Fa, Fv, fr, cs, e0, _⟩ := ST.one st1
  subst e0
  obtain ⟨F1, F2, e1, ⟨p, dx, vs, F', e2, e3, h3, hl, c1⟩, go⟩ := O.get l cs
  refine ⟨p, dx, _, e2, h3, lookup_no hn, ?_⟩
  exact meth_core (XE' := fun _ _ _ => False) (As := []) (ls := []) (vs := []) l rfl (ST.pop st1) (fun _ h => by simp at h) O hm hpre hpost rfl .nil .nil (fun _ h => by simp at h) kk
theorem Frm.made {G H : Hp} {x dx : Addr} {o o' : HO} (e : Ex G H) (n : H x = none) (n' : H dx = none) (ne : dx ≠ x) : Frm ⟨G, H, []⟩ G (upd (upd H dx o') x o) [x] where
  gg := .refl _
  gh := (e.trans (.new n')).trans (.new (by rw [upd_ne ne.symm]; exact n))
  nd := by simp
  dis := fun b hb => by
    have e1 : b = x := by simpa using hb
    subst e1
    cases q : G b with
    | none => rfl
    | some u => rw [e b u q] at n; cases n
  live := fun b hb => by
    have e1 : b = x := by simpa using hb
    subst e1
    rw [upd_same]; simp
  keep := fun b u q _ => Ex.new (by rw [upd_ne ne.symm]; exact n) b u (Ex.new n' b u q)
  fp := fun b hb => by
    have e1 : b = x := by simpa using hb
    subst e1
    exact .inr n
  gn := fun b u q n' => by rw [show G b = none from n'] at q; cases q
theorem make_core {E : Ent} {T : Cl} {t σ : L2.St} {H : Hp} {vs : List V} {Q : VK} {XE' : XK} {z dx : Addr} (l : T.length = t.length) (hl : vs.length = As.length) (st : ST E (As.map some ++ (T ++ ρ1)) (vs.map some ++ (t ++ σ)) H) (hv : ∀ p ∈ ls, vs[p.1]? = some p.2.2 ∧ σ[p.2.1]? = some (some p.2.2))
    (nz : H z = none) (ndx : H dx = none) (ne : dx ≠ z) (hm : m xx = some r) (hpre : pre xx = aObj C [] [] :: As) (hpost : post xx r = some B :: Po) (hret : ret xx r = aD X.K .none) (hP : Po.length = As.length) (n1 : (ls.map (·.1)).Nodup) (n2 : (ls.map (·.2.1)).Nodup) (hls : ∀ p ∈ ls, ρ1[p.2.1]? = some none)
    (kk : ∀ v H', ST E (some B :: (T ++ backs Po ls ρ1)) (some v :: (t ++ σ)) H' → Q v H') : SpM pre m post ret (.ref z :: vs) (upd (upd H dx (.own z)) z (.ins C dx [])) (fun v H2 => v = .non ∧ Q (.ref z) H2) XE' := by
  obtain ⟨G, F, f, c⟩ := st
  have fm := Frm.made (o := .ins C dx []) (o' := .own z) f.gh nz ndx ne
  obtain ⟨f0, keep0⟩ := f.step (Fa := []) (Fr := F) (.refl _) fm
  have c0 := c.mono (.refl _) f0.gh keep0
  obtain ⟨F1, F2, e1, c1, c2⟩ := c0.unappend (by simp [hl])
  subst e1
  have f0 : Frm E G (upd (upd H dx (.own z)) z (.ins C dx [])) ((z :: F1) ++ F2) := f0
  refine ⟨xx, r, G, z :: F1, hm, (f0.less (List.sublist_append_left _ _)).start, ?_, by rw [hpre]; simp [hl], fun v H2 st2 => ?_⟩
  · rw [hpre]
    exact ⟨.ref z, [z], F1, rfl, rfl, ⟨z, dx, [], [], rfl, rfl, upd_same, rfl, rfl⟩, c1⟩
  · obtain ⟨G2, F3, f3, v', F4, F5, e3, e4, q, c3⟩ := st2
    cases e3
    subst e4
    rw [hret] at q
    obtain ⟨q, eq0⟩ := q
    cases q
    subst eq0
    refine ⟨rfl, kk _ _ ?_⟩
    rw [hpost] at c3
    obtain ⟨u, FB, FP, e5, e6, qB, c4⟩ := c3
    cases e5
    subst e6
    obtain ⟨f4, keep⟩ := f0.step (Fa := z :: F1) (Fr := F2) (.refl _) f3
    have c5 := c4.append (c2.mono f3.gg f3.gh keep)
    have n5 : (FB ++ (FP ++ F2)).Nodup := by rw [← List.append_assoc]; exact f4.nd
    obtain ⟨m1, m2, m3⟩ := List.nodup_append.mp n5
    obtain ⟨F6, ha, hb, c7⟩ := cs_backs l ls Po ρ1 _ (hP.trans hl.symm) n1 (fun p hp => ⟨(hv p hp).1, (hv p hp).2, hls p hp⟩) n2 c5 m2
    exact ⟨G2, FB ++ F6, f4.sub (List.nodup_append.mpr ⟨m1, ha, fun x hx y hy => m3 x hx y (hb y hy)⟩) (fun x hx => by
      show x ∈ (FB ++ FP) ++ F2
      rw [List.append_assoc]
      rcases List.mem_append.mp hx with z | z
      · exact List.mem_append_left _ z
      · exact List.mem_append_right _ (hb x z)), .ref z, FB, F6, rfl, rfl, qB, c7⟩
/-- X(e, ..) -/
theorem xe_make {k : Nat} {ρo : Cl} (M : CalC X.prog X.w X.K X.mg X.base k C x (SpM pre m post ret)) (hr : Room (k + 1) X.A) (hm : m xx = some r) (ha : XL X (e :: es) ρ ρ1 As ls)
    (hpre : pre xx = aObj C [] [] :: As) (hpost : post xx r = some B :: Po) (hret : ret xx r = aD X.K .none) (hP : Po.length = As.length) (n1 : (ls.map (·.1)).Nodup) (n2 : (ls.map (·.2.1)).Nodup) (hls : ∀ p ∈ ls, ρ1[p.2.1]? = some none) (hb : backs Po ls ρ1 = ρo)
    (hg : Gl X x := by rfl) (hdb : (x == ("__debug__" : Str)) = false := by decide) (he : starEach (e :: es) X.env = (false, eval e X.env) :: starEach es X.env := by rfl) (hpl : (backTo pos (starEach es X.env)).any (·.1) = false := by rfl) :
    XE X (.Call (.Name x p) (e :: es) [] pos) ρ ρo B := fun E T t σ H l st Q kk => by
  subst hb
  obtain ⟨f, fd, ps, F, h1, h2, h3⟩ := M.ex
  refine wE.of (pe_make (E := fun _ _ _ => False) h2 F hr hg h1 h3 .nil pass0 paS hdb he hpl) (ha E T t σ H l st _ fun vs H' hl hv st' z dx nz ndx ne => ?_)
  rw [List.append_nil]
  exact make_core (XE' := fun _ _ _ => False) l hl st' hv nz ndx ne hm hpre hpost hret hP n1 n2 hls kk
theorem xe_make0 {k : Nat} (M : CalC X.prog X.w X.K X.mg X.base k C x (SpM pre m post ret)) (hr : Room (k + 1) X.A) (hm : m xx = some r)
    (hpre : pre xx = [aObj C [] []]) (hpost : post xx r = [some B]) (hret : ret xx r = aD X.K .none)
    (hg : Gl X x := by rfl) (hdb : (x == ("__debug__" : Str)) = false := by decide) : XE X (.Call (.Name x p) [] [] pos) ρ ρ B := fun E T t σ H l st Q kk => by
  obtain ⟨f, fd, ps, F, h1, h2, h3⟩ := M.ex
  refine wE.of (pe_make0 (E := fun _ _ _ => False) h2 F hr hg h1 h3 .nil pass0 hdb) fun z dx nz ndx ne => ?_
  exact make_core (XE' := fun _ _ _ => False) (As := []) (ls := []) (vs := []) l rfl st (fun _ h => by simp at h) nz ndx ne hm hpre hpost hret rfl .nil .nil (fun _ h => by simp at h) kk
end
end Mr

set_option Elab.async false
set_option linter.all false
set_option maxRecDepth 100000
/-! weaker assertions; values that are named; walks over a place's list; items changed at a place -/
namespace Mr
open PySem PySem.Spec PyProof.Rows L2
def Imp (A B : OA) : Prop := ∀ {G H : Hp} {v : V} {F : List Addr}, A.P G H v F → B.P G H v F
theorem imp_rfl {A : OA} : Imp A A := fun h => h
theorem imp_unpin {A : OA} {v0 : V} : Imp (pin v0 A) A := fun h => h.2
theorem imp_pin {A B : OA} {v0 : V} (h : Imp A B) : Imp (pin v0 A) (pin v0 B) := fun q => ⟨q.1, h q.2⟩
inductive ImpL : List OA → List OA → Prop
  | nil : ImpL [] []
  | cons {A B : OA} {As Bs : List OA} : Imp A B → ImpL As Bs → ImpL (A :: As) (B :: Bs)
theorem ImpL.cs {G H : Hp} : ∀ {As Bs : List OA} {σ : List (Option V)} {F : List Addr}, ImpL As Bs → Cs G H (As.map some) σ F → Cs G H (Bs.map some) σ F
  | _, _, [], _, .nil, c => c
  | _, _, _ :: _, _, .nil, c => c
  | _, _, [], _, .cons _ _, c => c.elim
  | _, _, _ :: _, _, .cons h t, c => by
    obtain ⟨v, F1, F2, e1, e2, q, c⟩ := c
    exact ⟨v, F1, F2, e1, e2, h q, t.cs c⟩
theorem imp_obj {C : Addr} {ns : List Str} {As Bs : List OA} (h : ImpL As Bs) : Imp (aObj C ns As) (aObj C ns Bs) := fun q => by
  obtain ⟨p, dx, vs, F', e2, e3, h1, hl, c1⟩ := q
  exact ⟨p, dx, vs, F', e2, e3, h1, hl, h.cs c1⟩
theorem imp_lst {As Bs : List OA} (h : ImpL As Bs) : Imp (aL As) (aL Bs) := fun q => by
  obtain ⟨p, vs, F', e2, e3, h1, c1⟩ := q
  exact ⟨p, vs, F', e2, e3, h1, h.cs c1⟩
theorem Own.weak {ρ : Cl} {v0 : V} {A A' : OA} {w : OA → Cl} (O : Own ρ v0 A w) (h : Imp A A') : Own ρ v0 A' w := ⟨fun {G H T t σ F} l c => by
  obtain ⟨F1, F2, e1, q, go⟩ := O.get l c
  exact ⟨F1, F2, e1, h q, go⟩⟩
theorem Cs.weak {G H : Hp} : ∀ {ρ : Cl} {σ : L2.St} {F : List Addr} {i : Nat} {A B : OA}, Cs G H ρ σ F → ρ[i]? = some (some A) → Imp A B → Cs G H (ρ.set i (some B)) σ F
  | [], _, _, _, _, _, _, h, _ => by simp at h
  | none :: _, [], _, _, _, _, c, _, _ => c.elim
  | some _ :: _, [], _, _, _, _, c, _, _ => c.elim
  | none :: ρ, _ :: σ, F, 0, A, B, c, h, _ => by simp at h
  | some A' :: ρ, x :: σ, F, 0, A, B, c, h, w => by
    have e : A' = A := by simpa using h
    subst e
    obtain ⟨v, F1, F2, e1, e2, q, c⟩ := c
    exact ⟨v, F1, F2, e1, e2, w q, c⟩
  | none :: ρ, x :: σ, F, i + 1, A, B, c, h, w => Cs.weak (ρ := ρ) (σ := σ) (i := i) c (by simpa using h) w
  | some A' :: ρ, x :: σ, F, i + 1, A, B, c, h, w => by
    obtain ⟨v, F1, F2, e1, e2, q, c⟩ := c
    exact ⟨v, F1, F2, e1, e2, q, Cs.weak (i := i) c (by simpa using h) w⟩
section
variable {X : Cx} {ω : Type} {sts : List Stmt} {m : Option ω} {Φ : ω → Ent → Ends → Prop} {ρ ρ1 ρ2 : Cl} {A B : OA} {a b e o : Expr} {pos p tpos : Pos}
theorem xg_none : XG X sts ρ (none : Option ω) Φ := fun o ho => nomatch ho
theorem xg_weak (i : Nat) (h : ρ[i]? = some (some A)) (w : Imp A B) (k : XG X sts (ρ.set i (some B)) m Φ) : XG X sts ρ m Φ := fun r hr E σ H D st q => by
  obtain ⟨G, F, f, c⟩ := st
  exact k r hr E σ H D ⟨G, F, f, c.weak h w⟩ q
theorem xe_weak (he : XE X e ρ ρ1 A) (i : Nat) {B B' : OA} (h : ρ1[i]? = some (some B)) (w : Imp B B') : XE X e ρ (ρ1.set i (some B')) A := fun E T t σ H l st Q k => he E T t σ H l st Q fun v H' st1 => k v H' (by
  obtain ⟨G, F, f, c⟩ := st1
  have q := Cs.weak (i := (some A :: T).length + i) (A := B) (B := B') c (by
    show ((some A :: T) ++ ρ1)[_]? = _
    rw [append_get_right]; exact h) w
  have e : ((some A :: T) ++ ρ1).set ((some A :: T).length + i) (some B') = (some A :: T) ++ ρ1.set i (some B') := append_set_right _ _ _ _
  have q : Cs G H' (((some A :: T) ++ ρ1).set ((some A :: T).length + i) (some B')) (some v :: (t ++ σ)) F := q
  rw [e] at q
  exact ⟨G, F, f, q⟩)
/-- an attribute's value is named -/
theorem xg_pinf (i k : Nat) {a0 : V} {C : Addr} {ns : List Str} {As : List OA} (h : ρ[i]? = some (some (pin a0 (aObj C ns As)))) (hk : As[k]? = some A) (kk : ∀ v, XG X sts (ρ.set i (some (pin a0 (aObj C ns (As.set k (pin v A)))))) m Φ) : XG X sts ρ m Φ := fun r hr E σ H D st q => by
  obtain ⟨G, F, f, c⟩ := st
  obtain ⟨F1, F2, e1, ⟨p, dx, vs, F', e2, e3, h1, hl, c1⟩, go⟩ := (Own.slot i h).get (T := []) (t := []) rfl c
  subst e2 e3
  obtain ⟨v, Fa, Fb, ev, e4, hq, c2⟩ := c1.getP hk
  obtain ⟨F3, a3, c4⟩ := c2.join (A := pin v A) (v := v) (F1 := Fa) (by rw [List.length_map]; exact lt_of_get hk) ⟨rfl, hq⟩
  have e6 : (vs.map some).set k (some v) = vs.map some := set_get (by rw [List.getElem?_map, ev]; rfl)
  rw [e6] at c4
  have c4 : Cs G H ((As.set k (pin v A)).map some) (vs.map some) F3 := by simpa [List.map_set] using c4
  obtain ⟨F5, a5, c5⟩ := go (.refl _) f.gh (fun b _ o q => q) (B := aObj C ns (As.set k (pin v A))) (F1' := p :: F3) ⟨p, dx, vs, F3, rfl, rfl, h1, hl, c4⟩
  refine kk v r hr E σ H D ⟨G, F5, f.perm ?_, c5⟩ q
  refine e1.trans (List.Perm.trans ?_ a5.symm)
  exact List.Perm.append_right F2 (List.Perm.cons p (e4.trans a3.symm))
theorem xi_ownW {v0 : V} {α : Type} {xs : List α} {cv : α → PyData} {w : OA → Cl} {tg iter : Expr} (h : XE X iter ρ ρ1 (aV v0)) (hi : Own ρ1 v0 (aLD X.K (xs.map cv)) w) : XI X tg iter ρ ρ1 (fun L => ∃ w, Own L v0 (aLD X.K (xs.map cv)) w) xs (fun x => aD X.K (cv x)) := fun E T t σ H l st R k => by
  have rd : ∀ {E : Ent} {T : Cl} {t : L2.St} {L : Cl} {C : L2.St} {H : Hp}, T.length = t.length → (∃ w, Own L v0 (aLD X.K (xs.map cv)) w) → ST E (T ++ L) (t ++ C) H → ∃ p vs G F, v0 = .ref p ∧ SqL X.K H p vs ∧ Frm E G H F ∧ Cs G H (T ++ L) (t ++ C) F ∧ DqAll X.K G vs (xs.map cv) := fun {E T t L C H} l hL st => by
    obtain ⟨G, F, f, c⟩ := st
    obtain ⟨w, hL⟩ := hL
    obtain ⟨p, vs, e1, e2, e3⟩ := rmW (K := X.K) hL l c f.gh (v := v0) (Fv := []) ⟨rfl, rfl⟩
    exact ⟨p, vs, G, F, e1, .inl (.inl e2), f, c, e3⟩
  refine wI.of (pi_list peS) (h E T t σ H l st _ fun v H1 st1 => ?_)
  obtain ⟨G, F, Fv, f, cs, e0, _⟩ := ST.one st1
  have st2 : ST E (T ++ ρ1) (t ++ σ) H1 := ⟨G, F, f, cs⟩
  obtain ⟨p, vs, G', F', e1, h1, _, _, _⟩ := rd l ⟨w, hi⟩ st2
  subst e0 e1
  refine ⟨p, rfl, ⟨_, h1⟩, k _ E _ (.refl _) st2 ⟨fun n hn T t L C H l ok st => ?_, fun T t L C H l ok st => ?_, fun n x v H H' hx T t L C l ok st y => ?_⟩⟩
  · obtain ⟨p', vs', G2, F2, e1, h1, _, _, q⟩ := rd l ok st
    cases e1
    have hl : n < vs'.length := by rw [q.len, List.length_map]; exact hn
    exact ⟨vs', vs'[n], h1, List.getElem?_eq_getElem hl⟩
  · obtain ⟨p', vs', G2, F2, e1, h1, _, _, q⟩ := rd l ok st
    cases e1
    exact ⟨vs', h1, by rw [q.len, List.length_map]; exact Nat.le_refl _⟩
  · obtain ⟨p', vs', G2, F2, e1, h1, f2, c2, q⟩ := rd l ok st
    cases e1
    obtain ⟨e1, e2⟩ := y
    have e3 := e2 vs' h1
    obtain ⟨w, e4, e5⟩ := q.get (i := n) (d := cv x) (by rw [List.getElem?_map, hx]; rfl)
    rw [e3] at e4
    cases e4
    subst e1
    exact ST.put f2 c2 e5
/-- xs[n] op= e at a place: a list of ints -/
theorem xg_augW {op : Operator} {g : Int → Int → Int} {n x k : Int} {xs : List Int} {v0 : V} {w w0 : OA → Cl} {rest : List Stmt} {j : Nat} (hop : PIp X op (ipI g)) (ho : XE X o ρ ρ (aV v0)) (hb : XE X b ρ ρ (aD X.K (.int n))) (h1 : Own ρ v0 (aLD X.K (xs.map PyData.int)) w0) (hn : ixN xs.length n = some j) (hx : xs[j]? = some x)
    (he : XE X e ρ ρ1 (aD X.K (.int k))) (h2 : Own ρ1 v0 (aLD X.K (xs.map PyData.int)) w) (h : XG X rest (w (aLD X.K ((xs.set j (g x k)).map PyData.int))) m Φ)
    (ha : ∀ ov iv new, augStore b ov iv new = (do holding [new, ov, iv] (setItem ov iv new); release [new, ov, iv] []; pure .next) := by intros; rfl) : XG X (.AugAssign (.Subscript o b tpos) op e pos :: rest) ρ m Φ := fun r hr E σ H D st q =>
  wS.of (pss_cons (ps_augS peS peS get_list peS hop set_list ha) pssS) (ho E [] [] σ H rfl st _ fun v H1 st1 => hb E [_] [_] σ H1 rfl st1 _ fun w1 H2 st2 => by
    obtain ⟨G, F, f, c, q1⟩ := ST.top st2
    cases q1
    have st3 : ST E ρ σ H2 := ST.pop (A := aV v0) (x := some v) ⟨G, F, f, c⟩
    have ev : v = v0 := by
      obtain ⟨u, F1, F2, e1, e2, ⟨e3, e4⟩, c⟩ := c
      cases e1
      exact e3
    subst ev
    have st30 := st3
    obtain ⟨G, F, f, c⟩ := st30
    obtain ⟨p, vs, e8, h3, hd⟩ := rmW (K := X.K) h1 (T := []) (t := []) rfl c f.gh (v := v) (Fv := []) ⟨rfl, rfl⟩
    subst e8
    obtain ⟨z, hz, hq⟩ := hd.get (i := j) (d := .int x) (by rw [List.getElem?_map, hx]; rfl)
    cases hq
    have hl : vs.length = xs.length := by rw [hd.len, List.length_map]
    refine ⟨p, vs, n, .int x, rfl, rfl, .inl (.inl h3), by unfold atI; rw [hl, hn]; exact hz, he E [] [] σ H2 rfl st3 _ fun y H3 st4 => ?_⟩
    obtain ⟨G, F, f, c, q2⟩ := ST.top st4
    cases q2
    refine ⟨x, k, rfl, rfl, ?_⟩
    obtain ⟨p', vs', e10, h4, hl', go⟩ := ST.modW (T := []) (t := []) rfl (ST.put (K := X.K) (v := .int (g x k)) f c (.int _)) h2
    cases e10
    have hj : j < xs.length := lt_of_get hx
    have hl'' : vs'.length = xs.length := by simpa using hl'
    have st5 := go (((xs.map PyData.int).map (aD X.K)).set j (aD X.K (.int (g x k)))) (vs'.set j (.int (g x k))) fun G H F1 F2 c q => cs_set (by simpa using hj) c q
    have e : ((xs.map PyData.int).map (aD X.K)).set j (aD X.K (.int (g x k))) = ((xs.set j (g x k)).map PyData.int).map (aD X.K) := by simp [List.map_set]
    rw [e] at st5
    exact ⟨p, vs', n, j, rfl, rfl, h4, by rw [hl'']; exact hn, h r hr E σ _ D st5 q⟩)
end
end Mr

set_option Elab.async false
set_option linter.all false
set_option maxRecDepth 100000
/-! owned dicts whose keys are ints and whose values are data -/
namespace Mr
open PySem PySem.Spec PyProof.Rows L2
section
variable {α : Type}
def dGet (kvs : List (Int × α)) (k : Int) : Option α := (kvs.find? fun kv => decide (kv.1 = k)).map (·.2)
def dHas (kvs : List (Int × α)) (k : Int) : Bool := (dGet kvs k).isSome
def dPut (kvs : List (Int × α)) (k : Int) (v : α) : List (Int × α) :=
  if (kvs.any fun kv => decide (kv.1 = k)) = true then kvs.map (fun kv => if kv.1 = k then (kv.1, v) else kv) else kvs ++ [(k, v)]
def dDel (kvs : List (Int × α)) (k : Int) : List (Int × α) := kvs.filter fun kv => decide (kv.1 ≠ k)
def dKeys (kvs : List (Int × α)) : List Int := kvs.map (·.1)
def insI (x : Int) : List Int → List Int
  | [] => [x]
  | y :: ys => if x ≤ y then x :: y :: ys else y :: insI x ys
def srtI : List Int → List Int
  | [] => []
  | x :: xs => insI x (srtI xs)
theorem insI_perm (x : Int) : ∀ ys : List Int, (insI x ys).Perm (x :: ys)
  | [] => .refl _
  | y :: ys => by
    unfold insI
    by_cases h : x ≤ y
    · rw [if_pos h]
    · rw [if_neg h]
      exact ((insI_perm x ys).cons y).trans (List.Perm.swap x y ys)
theorem srtI_perm : ∀ xs : List Int, (srtI xs).Perm xs
  | [] => .refl _
  | x :: xs => (insI_perm x (srtI xs)).trans ((srtI_perm xs).cons x)
theorem insI_sorted (x : Int) : ∀ ys : List Int, ys.Pairwise (· ≤ ·) → (insI x ys).Pairwise (· ≤ ·)
  | [], _ => by simp [insI]
  | y :: ys, h => by
    obtain ⟨h1, h2⟩ := List.pairwise_cons.mp h
    unfold insI
    by_cases q : x ≤ y
    · rw [if_pos q]
      refine List.pairwise_cons.mpr ⟨fun z hz => ?_, h⟩
      rcases List.mem_cons.mp hz with e | e
      · exact e ▸ q
      · exact Int.le_trans q (h1 z e)
    · rw [if_neg q]
      refine List.pairwise_cons.mpr ⟨fun z hz => ?_, insI_sorted x ys h2⟩
      rcases List.mem_cons.mp ((insI_perm x ys).mem_iff.mp hz) with e | e
      · omega
      · exact h1 z e
theorem srtI_sorted : ∀ xs : List Int, (srtI xs).Pairwise (· ≤ ·)
  | [] => .nil
  | x :: xs => insI_sorted x _ (srtI_sorted xs)
theorem sorted_unique : ∀ {xs ys : List Int}, xs.Perm ys → xs.Pairwise (· ≤ ·) → ys.Pairwise (· ≤ ·) → xs = ys
  | [], ys, p, _, _ => (List.Perm.nil_eq p)
  | x :: xs, [], p, _, _ => (by have := p.length_eq; simp at this)
  | x :: xs, y :: ys, p, hx, hy => by
    obtain ⟨h1, h2⟩ := List.pairwise_cons.mp hx
    obtain ⟨h3, h4⟩ := List.pairwise_cons.mp hy
    have e : x = y := by
      have a : x ∈ y :: ys := p.mem_iff.mp (by simp)
      have b : y ∈ x :: xs := p.mem_iff.mpr (by simp)
      have a1 : y ≤ x := by
        rcases List.mem_cons.mp a with e | e
        · omega
        · exact h3 x e
      have b1 : x ≤ y := by
        rcases List.mem_cons.mp b with e | e
        · omega
        · exact h1 y e
      omega
    subst e
    rw [sorted_unique (List.Perm.cons_inv p) h2 h4]
end
inductive KvD (K : PySem.W.Frag) (G : Hp) : List (Key × V) → List (Int × PyData) → Prop
  | nil : KvD K G [] []
  | cons {k : Int} {v : V} {d : PyData} {ws : List (Key × V)} {kvs : List (Int × PyData)} : Dq K G v d → KvD K G ws kvs → KvD K G ((Sum.inl k, v) :: ws) ((k, d) :: kvs)
section
variable {K : PySem.W.Frag} {G G' : Hp}
theorem KvD.mono (e : Ex G G') : ∀ {ws : List (Key × V)} {kvs : List (Int × PyData)}, KvD K G ws kvs → KvD K G' ws kvs
  | _, _, .nil => .nil
  | _, _, .cons h t => .cons (Dq.mono e _ _ h) (t.mono e)
theorem KvD.len : ∀ {ws : List (Key × V)} {kvs : List (Int × PyData)}, KvD K G ws kvs → ws.length = kvs.length
  | _, _, .nil => rfl
  | _, _, .cons h t => congrArg (· + 1) t.len
theorem KvD.keys : ∀ {ws : List (Key × V)} {kvs : List (Int × PyData)}, KvD K G ws kvs → ws.map (·.1) = (dKeys kvs).map Sum.inl
  | _, _, .nil => rfl
  | _, _, .cons h t => by
    show _ :: _ = _ :: _
    rw [t.keys]
    rfl
theorem KvD.get : ∀ {ws : List (Key × V)} {kvs : List (Int × PyData)} {k : Int} {d : PyData}, KvD K G ws kvs → dGet kvs k = some d → ∃ v, valV ws (Sum.inl k) = some v ∧ Dq K G v d
  | _, _, k, d, .nil, h => by simp [dGet] at h
  | _, _, k, d, .cons (k := k') (v := v) (d := d') (kvs := kvs') h1 t, h => by
    by_cases e : k' = k
    · subst e
      have : some d' = some d := by simpa [dGet, List.find?_cons] using h
      cases this
      exact ⟨v, valV_pos rfl, h1⟩
    · have h : dGet kvs' k = some d := by simpa [dGet, List.find?_cons, e] using h
      obtain ⟨w, e1, e2⟩ := t.get h
      exact ⟨w, by rw [valV_neg (fun q => e (Sum.inl.inj q))]; exact e1, e2⟩
theorem KvD.has : ∀ {ws : List (Key × V)} {kvs : List (Int × PyData)} {k : Int}, KvD K G ws kvs → (valV ws (Sum.inl k)).isSome = dHas kvs k
  | _, _, k, .nil => rfl
  | _, _, k, .cons (k := k') (v := v) h1 t => by
    by_cases e : k' = k
    · subst e
      rw [valV_pos rfl]
      simp [dHas, dGet, List.find?_cons]
    · rw [valV_neg (fun q => e (Sum.inl.inj q)), t.has]
      simp [dHas, dGet, List.find?_cons, e]
theorem KvD.any : ∀ {ws : List (Key × V)} {kvs : List (Int × PyData)} {k : Int}, KvD K G ws kvs → (ws.any fun kv => decide (kv.1 = Sum.inl k)) = (kvs.any fun kv => decide (kv.1 = k))
  | _, _, k, .nil => rfl
  | _, _, k, .cons (k := k') h1 t => by
    rw [List.any_cons, List.any_cons, t.any]
    congr 1
    exact decide_eq_decide.mpr ⟨fun q => Sum.inl.inj q, fun q => congrArg Sum.inl q⟩
theorem KvD.repl {v : V} {d : PyData} (hv : Dq K G v d) : ∀ {ws : List (Key × V)} {kvs : List (Int × PyData)} {k : Int}, KvD K G ws kvs → KvD K G (ws.map fun kv => if kv.1 = Sum.inl k then (kv.1, v) else kv) (kvs.map fun kv => if kv.1 = k then (kv.1, d) else kv)
  | _, _, k, .nil => .nil
  | _, _, k, .cons (k := k') h1 t => by
    rw [List.map_cons, List.map_cons]
    by_cases e : k' = k
    · subst e
      rw [if_pos rfl, if_pos rfl]
      exact .cons hv (t.repl hv)
    · rw [if_neg (fun q => e (Sum.inl.inj q)), if_neg e]
      exact .cons h1 (t.repl hv)
theorem KvD.snoc {v : V} {d : PyData} {k : Int} (hv : Dq K G v d) : ∀ {ws : List (Key × V)} {kvs : List (Int × PyData)}, KvD K G ws kvs → KvD K G (ws ++ [(Sum.inl k, v)]) (kvs ++ [(k, d)])
  | _, _, .nil => .cons hv .nil
  | _, _, .cons h1 t => .cons h1 (t.snoc hv)
theorem KvD.put {v : V} {d : PyData} {k : Int} {ws : List (Key × V)} {kvs : List (Int × PyData)} (h : KvD K G ws kvs) (hv : Dq K G v d) : KvD K G (putK ws (Sum.inl k) v) (dPut kvs k d) := by
  unfold putK dPut
  rw [h.any]
  split
  · exact h.repl hv
  · exact h.snoc hv
theorem KvD.drop : ∀ {ws : List (Key × V)} {kvs : List (Int × PyData)} {k : Int}, KvD K G ws kvs → KvD K G (dropK ws (Sum.inl k)) (dDel kvs k)
  | _, _, k, .nil => .nil
  | _, _, k, .cons (k := k') (v := v) (ws := ws) (kvs := kvs) h1 t => by
    have ih := t.drop (k := k)
    unfold dropK dDel at ih ⊢
    rw [List.filter_cons, List.filter_cons]
    by_cases e : k' = k
    · subst e
      rw [if_neg (by simp), if_neg (by simp)]
      exact ih
    · rw [if_pos (by simp [e]), if_pos (by simp [e])]
      exact .cons h1 ih
end
def aDK (K : PySem.W.Frag) (kvs : List (Int × PyData)) : OA := ⟨fun G H v F => ∃ p ws, v = .ref p ∧ F = [p] ∧ H p = some (.dK ws) ∧ KvD K G ws kvs, fun h e _ k => by
  obtain ⟨p, ws, e1, e2, h1, q⟩ := h
  subst e2
  exact ⟨p, ws, e1, rfl, k p (by simp) _ h1, q.mono e⟩⟩
abbrev dD {α : Type} [Cd α] (kvs : List (Int × α)) : List (Int × PyData) := kvs.map fun kv => (kv.1, Cd.d kv.2)
section
variable {α : Type} [Cd α]
theorem dGet_d {kvs : List (Int × α)} {k : Int} {x : α} (h : dGet kvs k = some x) : dGet (dD kvs) k = some (Cd.d x) := by
  induction kvs with
  | nil => simp [dGet] at h
  | cons kv kvs ih =>
    obtain ⟨k', v⟩ := kv
    show dGet ((k', Cd.d v) :: dD kvs) k = _
    by_cases e : k' = k
    · subst e
      have : some v = some x := by simpa [dGet, List.find?_cons] using h
      cases this
      simp [dGet, List.find?_cons]
    · have h : dGet kvs k = some x := by simpa [dGet, List.find?_cons, e] using h
      simpa [dGet, List.find?_cons, e] using ih h
theorem dHas_d (kvs : List (Int × α)) (k : Int) : dHas (dD kvs) k = dHas kvs k := by
  induction kvs with
  | nil => rfl
  | cons kv kvs ih =>
    obtain ⟨k', v⟩ := kv
    show dHas ((k', Cd.d v) :: dD kvs) k = _
    by_cases e : k' = k
    · simp [dHas, dGet, List.find?_cons, e]
    · simpa [dHas, dGet, List.find?_cons, e] using ih
theorem dPut_d (kvs : List (Int × α)) (k : Int) (x : α) : dPut (dD kvs) k (Cd.d x) = dD (dPut kvs k x) := by
  have e : ((dD kvs).any fun kv => decide (kv.1 = k)) = (kvs.any fun kv => decide (kv.1 = k)) := by
    unfold dD
    rw [List.any_map]
    rfl
  unfold dPut
  rw [e]
  split
  · unfold dD
    rw [List.map_map, List.map_map]
    refine List.map_congr_left fun kv _ => ?_
    show (if kv.1 = k then _ else _) = _
    by_cases q : kv.1 = k
    · simp [q]
    · simp [q]
  · simp [dD]
theorem dDel_d (kvs : List (Int × α)) (k : Int) : dDel (dD kvs) k = dD (dDel kvs k) := by
  unfold dDel dD
  rw [List.filter_map]
  rfl
theorem dKeys_d (kvs : List (Int × α)) : dKeys (dD kvs) = dKeys kvs := by
  unfold dKeys dD
  rw [List.map_map]
  rfl
end
theorem ST.modD {E : Ent} {K : PySem.W.Frag} {T ρ : Cl} {t σ : L2.St} {G H : Hp} {F : List Addr} {v0 : V} {kvs : List (Int × PyData)} {w : OA → Cl} (l : T.length = t.length) (f : Frm E G H F) (c : Cs G H (T ++ ρ) (t ++ σ) F) (O : Own ρ v0 (aDK K kvs) w) :
    ∃ p ws, v0 = .ref p ∧ H p = some (.dK ws) ∧ KvD K G ws kvs ∧ ∀ kvs' ws', KvD K G ws' kvs' → ST E (T ++ w (aDK K kvs')) (t ++ σ) (upd H p (.dK ws')) := by
  obtain ⟨F1, F2, e1, ⟨p, ws, e2, e3, h1, q⟩, go⟩ := O.get l c
  subst e2 e3
  refine ⟨p, ws, rfl, h1, q, fun kvs' ws' q' => ?_⟩
  have f1 := f.perm e1
  have f2 : Frm ⟨G, H, [p]⟩ G H [p] := (f1.less (List.sublist_append_left _ _)).start
  have f3 := Frm.write (o := .dK ws') f2
  obtain ⟨f5, st5⟩ := f.step e1 f3
  obtain ⟨F6, e8, c4⟩ := go (.refl _) f5.gh st5 (B := aDK K kvs') (F1' := [p]) ⟨p, ws', rfl, rfl, upd_same, q'⟩
  exact ⟨G, F6, f5.perm e8.symm, c4⟩
theorem ST.seeD {K : PySem.W.Frag} {T ρ : Cl} {t σ : L2.St} {G H : Hp} {F : List Addr} {v0 : V} {kvs : List (Int × PyData)} {w : OA → Cl} (l : T.length = t.length) (c : Cs G H (T ++ ρ) (t ++ σ) F) (O : Own ρ v0 (aDK K kvs) w) :
    ∃ p ws, v0 = .ref p ∧ H p = some (.dK ws) ∧ KvD K G ws kvs := by
  obtain ⟨F1, F2, e1, ⟨p, ws, e2, e3, h1, q⟩, go⟩ := O.get l c
  exact ⟨p, ws, e2, h1, q⟩
section
variable {X : Cx} {ρ ρ1 ρ2 : Cl} {a b e o : Expr} {pos pos' tpos p apos cpos : Pos} {v0 : V} {w w0 w1 : OA → Cl} {α : Type} [Cd α] {kvs kvs0 kvs1 : List (Int × α)} {k : Int} {x : α} {ω : Type} {rest : List Stmt} {m : Option ω} {Φ : ω → Ent → Ends → Prop}
/-- {} -/
theorem xe_dnew : XE X (.Dict [] [] pos) ρ ρ (aDK X.K (dD ([] : List (Int × α)))) := fun E T t σ H l st Q kk =>
  wE.of pe_dnewK fun p hp => by
    obtain ⟨G, F, f, c⟩ := st
    obtain ⟨f1, keep⟩ := f.step (Fa := []) (Fr := F) (by simp) (Frm.alloc (o := .dK []) f.gh hp)
    exact kk _ _ ⟨G, _, f1, .ref p, [p], F, rfl, rfl, ⟨p, [], rfl, rfl, upd_same, .nil⟩, c.mono (.refl _) f1.gh keep⟩
theorem hu1 (h : X.A.units + 64 < cLine) : X.A.units + 1 < cLine := Nat.lt_of_le_of_lt (Nat.add_le_add_left (by decide : 1 ≤ 64) _) h
/-- the value of a name on the top -/
theorem ST.topV {E : Ent} {L : Cl} {C : L2.St} {H : Hp} {v : V} (st : ST E (some (aV v0) :: L) (some v :: C) H) : v = v0 := by
  obtain ⟨G, F, Fv, f, cs, e0, _⟩ := ST.one st
  exact e0
/-- d[k] -/
theorem xe_dget (hu : X.A.units + 64 < cLine) (hx : dGet kvs k = some x) (ho : XE X o ρ ρ (aV v0)) (hb : XE X b ρ ρ1 (aD X.K (.int k))) (O : Own ρ1 v0 (aDK X.K (dD kvs)) w) (hs : NoSl b := by exact fun _ _ => rfl) : XE X (.Subscript o b pos) ρ ρ1 (aD X.K (Cd.d x)) := fun E T t σ H l st Q kk =>
  wE.of (pe_dget (hu1 hu) peS peS hs) (ho E T t σ H l st _ fun u H1 st1 => by
    have e0 := ST.topV st1
    subst e0
    refine hb E (_ :: T) (_ :: t) σ H1 (by simp [l]) st1 _ fun y H2 st2 => ?_
    obtain ⟨G, F, f, c, q⟩ := ST.top (ST.drop2 st2)
    cases q
    obtain ⟨p, ws, e1, h1, q⟩ := ST.seeD l c O
    obtain ⟨v, e2, hv⟩ := q.get (dGet_d hx)
    refine ⟨p, v, e1, ?_, kk _ _ (ST.put f c hv)⟩
    rw [← e2]
    exact DGet.k (k := Sum.inl k) h1)
/-- k in d -/
theorem xk_din (hu : X.A.units + 64 < cLine) (ha : XE X a ρ ρ1 (aD X.K (.int k))) (ho : XE X o ρ1 ρ2 (aV v0)) (O : Own ρ2 v0 (aDK X.K (dD kvs)) w) (hm : behindInMarks .In o = false := by rfl) : XKm X (.Compare a [.In] [o] pos) ρ ρ2 (dHas kvs k) :=
  ⟨_, pe_cmp (pc_din (hu1 hu) peS peS) hm, pt_cmp (pc_din (hu1 hu) peS peS) hm, fun E T t σ H l st Q kk => ha E T t σ H l st _ fun y H1 st1 => ho E (_ :: T) (_ :: t) σ H1 (by simp [l]) st1 _ fun u H2 st2 => by
    have e0 := ST.topV st2
    subst e0
    obtain ⟨G, F, f, c, q⟩ := ST.top (ST.pop st2)
    cases q
    obtain ⟨p, ws, e1, h1, q⟩ := ST.seeD l c O
    refine ⟨p, _, e1, DGet.k (k := Sum.inl k) h1, ?_⟩
    rw [q.has, dHas_d]
    exact kk _ _ (ST.put f c (.bl _))⟩
theorem xk_dnin (hu : X.A.units + 64 < cLine) (ha : XE X a ρ ρ1 (aD X.K (.int k))) (ho : XE X o ρ1 ρ2 (aV v0)) (O : Own ρ2 v0 (aDK X.K (dD kvs)) w) (hm : behindInMarks .NotIn o = false := by rfl) : XKm X (.Compare a [.NotIn] [o] pos) ρ ρ2 (!dHas kvs k) :=
  ⟨_, pe_cmp (pc_dnotin (hu1 hu) peS peS) hm, pt_cmp (pc_dnotin (hu1 hu) peS peS) hm, fun E T t σ H l st Q kk => ha E T t σ H l st _ fun y H1 st1 => ho E (_ :: T) (_ :: t) σ H1 (by simp [l]) st1 _ fun u H2 st2 => by
    have e0 := ST.topV st2
    subst e0
    obtain ⟨G, F, f, c, q⟩ := ST.top (ST.pop st2)
    cases q
    obtain ⟨p, ws, e1, h1, q⟩ := ST.seeD l c O
    refine ⟨p, _, e1, DGet.k (k := Sum.inl k) h1, ?_⟩
    rw [q.has, dHas_d]
    exact kk _ _ (ST.put f c (.bl _))⟩
/-- d[k] = e -/
theorem xg_dput (hu : X.A.units + 64 < cLine) (hz : kvs.length < 1000000) (he : XE X e ρ ρ1 (aD X.K (Cd.d x))) (ho : XE X o ρ1 ρ1 (aV v0)) (hb : XE X b ρ1 ρ2 (aD X.K (.int k))) (O : Own ρ2 v0 (aDK X.K (dD kvs)) w) (h : XG X rest (w (aDK X.K (dD (dPut kvs k x)))) m Φ)
    (hs : swapsWith e (some (.Subscript o b pos')) pos.line X.env = pure false := by rfl) : XG X (.Assign [.Subscript o b pos'] e pos :: rest) ρ m Φ := fun r hr E σ H D st q =>
  wS.of (pss_cons (ps_dput (hu1 hu) peS peS peS hs) pssS) (he E [] [] σ H rfl st _ fun y H1 st1 => ho E [_] [_] σ H1 rfl st1 _ fun u H2 st2 => by
    have e0 := ST.topV st2
    subst e0
    refine hb E [_, _] [_, _] σ H2 rfl st2 _ fun i H3 st3 => ?_
    have st4 : ST E (some (aD X.K (.int k)) :: some (aD X.K (Cd.d x)) :: ρ2) (some i :: some y :: σ) H3 := ST.drop2 st3
    obtain ⟨G, F, f, c, q1, q2⟩ := ST.top2 st4
    cases q2
    obtain ⟨p, ws, e1, h1, q3, go⟩ := ST.modD (T := []) (t := []) rfl f c O
    refine ⟨p, _, e1, DPut.k (k := Sum.inl k) h1 (by rw [q3.len, List.length_map]; exact sz_lt hz), ?_⟩
    refine h r hr E σ _ D ?_ q
    have q5 := go _ _ (q3.put (k := k) q1)
    rw [dPut_d] at q5
    exact q5)
/-- del d[k] -/
theorem xg_ddel (hx : dHas kvs k = true) (ho : XE X o ρ ρ (aV v0)) (hb : XE X b ρ ρ1 (aD X.K (.int k))) (O : Own ρ1 v0 (aDK X.K (dD kvs)) w) (h : XG X rest (w (aDK X.K (dD (dDel kvs k)))) m Φ) : XG X (.Delete [.Subscript o b tpos] pos :: rest) ρ m Φ := fun r hr E σ H D st q =>
  wS.of (pss_cons (ps_ddel peS peS) pssS) (ho E [] [] σ H rfl st _ fun u H1 st1 => by
    have e0 := ST.topV st1
    subst e0
    refine hb E [_] [_] σ H1 rfl st1 _ fun i H2 st2 => ?_
    obtain ⟨G, F, f, c, q1⟩ := ST.top (ST.drop2 st2)
    cases q1
    obtain ⟨p, ws, e1, h1, q3, go⟩ := ST.modD (T := []) (t := []) rfl f c O
    refine ⟨p, ws, Sum.inl k, e1, h1, rfl, by rw [q3.has, dHas_d]; exact hx, ?_⟩
    refine h r hr E σ _ D ?_ q
    have q5 := go _ _ (q3.drop (k := k))
    rw [dDel_d] at q5
    exact q5)
/-- if d: -/
theorem xt_dict (ho : XE X o ρ ρ1 (aV v0)) (O : Own ρ1 v0 (aDK X.K (dD kvs)) w) (he : ∀ whole, isTrue o X.env whole = (do let v ← whole; standAt o.pos; holding [v] (truthy v)) := by intro _; rfl) : XT X o ρ ρ1 (!kvs.isEmpty) := fun E T t σ H l st Q kk =>
  wT.of (pt_truth peS he) (ho E T t σ H l st _ fun u H1 st1 => by
    have e0 := ST.topV st1
    subst e0
    obtain ⟨G, F, f, c⟩ := ST.pop st1
    obtain ⟨p, ws, e1, h1, q⟩ := ST.seeD l c O
    subst e1
    refine ⟨!kvs.isEmpty, .inr (.inr ⟨ws, h1, ?_⟩), kk H1 ⟨G, F, f, c⟩⟩
    have := q.len
    rw [List.length_map] at this
    cases ws <;> cases kvs <;> simp_all)
/-- len(d) -/
theorem xe_dlen (ho : XE X o ρ ρ1 (aV v0)) (O : Own ρ1 v0 (aDK X.K (dD kvs)) w) (hm : X.mg "len" = none) (hg : Gl X "len" := by rfl) (hs : starEach [o] X.env = [(false, eval o X.env)] := by rfl) (hpl : (backTo pos (starEach [] X.env)).any (·.1) = false := by rfl) : XE X (.Call (.Name "len" p) [o] [] pos) ρ ρ1 (aD X.K (.int ((kvs.length : Nat) : Int))) :=
  xe_callB call_lenD (xa_cons ho xa_nil hs) (fun E T t σ vs H Q l hl st k => by
    obtain ⟨v, rfl⟩ := vs1 hl
    have e0 := ST.topV st
    subst e0
    obtain ⟨G, F, f, c⟩ := ST.pop st
    obtain ⟨q, ws, e1, h1, h2⟩ := ST.seeD l c O
    refine ⟨q, ws, by rw [e1], h1, ?_⟩
    have := h2.len
    rw [List.length_map] at this
    rw [this]
    exact k _ _ (ST.put f c (.int _))) hm PySem.boot_len hg (by decide) (by decide) hs hpl
theorem dqI {K : PySem.W.Frag} {G : Hp} : ∀ ns : List Int, DqAll K G (ns.map V.int) (ns.map PyData.int)
  | [] => .nil
  | n :: ns => .cons (.int n) (dqI ns)
/-- sorted(d): the keys -/
theorem xe_dsorted (hc : X.calm = true) (hz : kvs.length < 64) (ho : XE X o ρ ρ1 (aV v0)) (O : Own ρ1 v0 (aDK X.K (dD kvs)) w) (hm : X.mg "sorted" = none) (hg : Gl X "sorted" := by rfl) (hs : starEach [o] X.env = [(false, eval o X.env)] := by rfl) (hpl : (backTo pos (starEach [] X.env)).any (·.1) = false := by rfl) : XE X (.Call (.Name "sorted" p) [o] [] pos) ρ ρ1 (aLD X.K ((srtI (dKeys kvs)).map PyData.int)) :=
  xe_callB (call_sortedDI hc) (xa_cons ho xa_nil hs) (fun E T t σ vs H Q l hl st k => by
    obtain ⟨v, rfl⟩ := vs1 hl
    have e0 := ST.topV st
    subst e0
    obtain ⟨G, F, f, c⟩ := ST.pop st
    obtain ⟨q, ws, e1, h1, h2⟩ := ST.seeD l c O
    refine ⟨q, ws, dKeys kvs, by rw [e1], .inl h1, by rw [h2.keys, dKeys_d], by unfold dKeys; rw [List.length_map]; exact hz, fun ys p' hp hsrt hn => ?_⟩
    have e := sorted_unique (hp.trans (srtI_perm _).symm) hsrt (srtI_sorted _)
    subst e
    exact k _ _ (ST.newL f c hn (dqI _))) hm (by decide +kernel) hg (by decide) (by decide) hs hpl
/-- list(d): the keys -/
theorem xe_dlist (hc : X.calm = true) (ho : XE X o ρ ρ1 (aV v0)) (O : Own ρ1 v0 (aDK X.K (dD kvs)) w) (hm : X.mg "list" = none) (hg : Gl X "list" := by rfl) (hs : starEach [o] X.env = [(false, eval o X.env)] := by rfl) (hpl : (backTo pos (starEach [] X.env)).any (·.1) = false := by rfl) : XE X (.Call (.Name "list" p) [o] [] pos) ρ ρ1 (aLD X.K ((dKeys kvs).map PyData.int)) :=
  xe_callTy (call_listD hc) (xa_cons ho xa_nil hs) (fun E T t σ vs H Q l hl st k => by
    obtain ⟨v, rfl⟩ := vs1 hl
    have e0 := ST.topV st
    subst e0
    obtain ⟨G, F, f, c⟩ := ST.pop st
    obtain ⟨q, ws, e1, h1, h2⟩ := ST.seeD l c O
    refine ⟨q, ws, by rw [e1], .inl h1, fun p' hn => ?_⟩
    have e : (ws.map fun kv => kV kv.1) = (dKeys kvs).map V.int := by
      have := congrArg (List.map kV) h2.keys
      rw [dKeys_d, List.map_map, List.map_map] at this
      exact this
    rw [e]
    exact k _ _ (ST.newL f c hn (dqI _))) hm (by decide +kernel) hg (by decide) (by decide) hs hpl
/-- sorted(xs) of ints -/
theorem xe_sortedI {A : OA} {xs : List Int} (ha : XE X a ρ ρ1 A) (r : Rls X.K ρ1 A (xs.map PyData.int)) (hm : X.mg "sorted" = none) (hg : Gl X "sorted" := by rfl) (hs : starEach [a] X.env = [(false, eval a X.env)] := by rfl) (hpl : (backTo pos (starEach [] X.env)).any (·.1) = false := by rfl) : XE X (.Call (.Name "sorted" p) [a] [] pos) ρ ρ1 (aLD X.K ((srtI xs).map PyData.int)) :=
  xe_callB cr_sortedI (xa_cons ha xa_nil hs) (fun E T t σ vs H Q l hl st k => by
    obtain ⟨v, rfl⟩ := vs1 hl
    obtain ⟨G, F, Fv, f, c, q⟩ := ST.one st
    obtain ⟨p1, ys, e1, e2, e3⟩ := r l c f.gh q
    have e : ys = xs.map V.int := by
      have : ∀ {ys : List V} {xs : List Int}, DqAll X.K G ys (xs.map PyData.int) → ys = xs.map V.int := fun {ys xs} => by
        induction xs generalizing ys with
        | nil => intro h; cases h; rfl
        | cons x xs ih =>
          intro h
          cases h with
          | cons h1 h2 => cases h1; rw [ih h2]; rfl
      exact this e3
    subst e
    refine ⟨p1, xs, by rw [e1], e2, fun zs p' hp hsrt hn => ?_⟩
    have e := sorted_unique (hp.trans (srtI_perm _).symm) hsrt (srtI_sorted _)
    subst e
    exact k _ _ (ST.newL f c hn (dqI _))) hm (by decide +kernel) hg (by decide) (by decide) hs hpl
/-- d.pop(k), it is there -/
theorem xe_dpop (hx : dGet kvs k = some x) (ho : XE X o ρ ρ (aV v0)) (O0 : Own ρ v0 (aDK X.K (dD kvs0)) w0) (hb : XE X b ρ ρ1 (aD X.K (.int k))) (O : Own ρ1 v0 (aDK X.K (dD kvs)) w) (M : M1 X o "pop" apos b cpos) : XE X (.Call (.Attribute o "pop" apos) [b] [] cpos) ρ (w (aDK X.K (dD (dDel kvs k)))) (aD X.K (Cd.d x)) := fun E T t σ H l st Q kk =>
  wE.of (pe_dpop1 peS peS M) (ho E T t σ H l st _ fun u H1 st1 => by
    have e0 := ST.topV st1
    subst e0
    obtain ⟨G0, F0, f0, c0⟩ := ST.pop st1
    obtain ⟨p0, ws0, e1, h0, q0⟩ := ST.seeD l c0 O0
    subst e1
    refine ⟨p0, rfl, .inl ⟨ws0, .inl h0⟩, hb E (_ :: T) (_ :: t) σ H1 (by simp [l]) st1 _ fun y H2 st2 => ?_⟩
    obtain ⟨G, F, f, c, q⟩ := ST.top (ST.drop2 st2)
    cases q
    obtain ⟨p, ws, e1, h1, q, _⟩ := ST.modD l f c O
    cases e1
    obtain ⟨v, e2, hv⟩ := q.get (dGet_d hx)
    refine ⟨ws, Sum.inl k, v, h1, rfl, e2, kk _ _ ?_⟩
    obtain ⟨p', ws', e3, h3, q3, go⟩ := ST.modD (T := some (aD X.K (Cd.d x)) :: T) (t := some v :: t) (by simp [l]) f ⟨v, [], F, rfl, rfl, ⟨hv, rfl⟩, c⟩ O
    cases e3
    rw [h1] at h3
    cases h3
    have q5 := go _ _ (q3.drop (k := k))
    rw [dDel_d] at q5
    exact q5)
/-- x in xs, ints -/
theorem inV_int (x : Int) : ∀ xs : List Int, inV (V.int x) (xs.map V.int) = decide (x ∈ xs)
  | [] => by simp [inV]
  | y :: ys => by
    have ih := inV_int x ys
    unfold inV at ih ⊢
    rw [List.map_cons, List.any_cons, ih]
    have : eqV (V.int y) (V.int x) = decide (y = x) := by
      unfold eqV
      first | rfl | simp
    rw [this]
    by_cases h : y = x
    · subst h; simp
    · have h' : x ≠ y := fun q => h q.symm
      simp [h, h']
end
end Mr

set_option Elab.async false
set_option linter.all false
set_option maxRecDepth 100000
/-! in, for lists of ints; tests in a while's head -/
namespace Mr
open PySem PySem.Spec PyProof.Rows L2
theorem impL_rfl : ∀ As : List OA, ImpL As As
  | [] => .nil
  | A :: As => .cons imp_rfl (impL_rfl As)
theorem impL_set {v : V} {A : OA} : ∀ {As : List OA} {k : Nat}, As[k]? = some A → ImpL (As.set k (pin v A)) As
  | [], k, h => by simp at h
  | B :: As, 0, h => by
    have e : B = A := by simpa using h
    subst e
    exact .cons imp_unpin (impL_rfl As)
  | B :: As, k + 1, h => .cons imp_rfl (impL_set (by simpa using h))
theorem dq_vints {K : PySem.W.Frag} {G : Hp} : ∀ {ys : List V} {xs : List Int}, DqAll K G ys (xs.map PyData.int) → ys = xs.map V.int
  | _, [], h => by cases h; rfl
  | _, x :: xs, h => by
    cases h with
    | cons h1 h2 => cases h1; rw [dq_vints h2]; rfl
section
variable {X : Cx} {ρ ρ1 ρ2 : Cl} {a b e : Expr} {pos : Pos} {A B : OA}
theorem xt_pinf (i k : Nat) {a0 : V} {C : Addr} {ns : List Str} {As : List OA} {bb : Bool} (h : ρ[i]? = some (some (pin a0 (aObj C ns As)))) (hk : As[k]? = some A) (kk : ∀ v, XT X e (ρ.set i (some (pin a0 (aObj C ns (As.set k (pin v A)))))) (ρ.set i (some (pin a0 (aObj C ns (As.set k (pin v A)))))) bb) : XT X e ρ ρ bb := fun E T t σ H l st Q k2 => by
  obtain ⟨G, F, f, c⟩ := st
  obtain ⟨F1, F2, e1, ⟨p, dx, vs, F', e2, e3, h1, hl, c1⟩, go⟩ := (Own.slot i h).get l c
  subst e2 e3
  obtain ⟨v, Fa, Fb, ev, e4, hq, c2⟩ := c1.getP hk
  obtain ⟨F3, a3, c4⟩ := c2.join (A := pin v A) (v := v) (F1 := Fa) (by rw [List.length_map]; exact lt_of_get hk) ⟨rfl, hq⟩
  have e6 : (vs.map some).set k (some v) = vs.map some := set_get (by rw [List.getElem?_map, ev]; rfl)
  rw [e6] at c4
  have c4 : Cs G H ((As.set k (pin v A)).map some) (vs.map some) F3 := by simpa [List.map_set] using c4
  obtain ⟨F5, a5, c5⟩ := go (.refl _) f.gh (fun b _ o q => q) (B := aObj C ns (As.set k (pin v A))) (F1' := p :: F3) ⟨p, dx, vs, F3, rfl, rfl, h1, hl, c4⟩
  refine kk v E T t σ H l ⟨G, F5, f.perm (e1.trans (List.Perm.trans (List.Perm.append_right F2 (List.Perm.cons p (e4.trans a3.symm))) a5.symm)), c5⟩ Q fun H' st' => k2 H' ?_
  obtain ⟨G', F6, f', c6⟩ := st'
  have hi : i < ρ.length := lt_of_get h
  have c7 := Cs.weak (i := T.length + i) (A := pin (V.ref p) (aObj C ns (As.set k (pin v A)))) (B := pin (V.ref p) (aObj C ns As)) c6 (by rw [append_get_right, List.getElem?_set_self hi]) (imp_pin (imp_obj (impL_set hk)))
  rw [append_set_right, set_set, set_get h] at c7
  exact ⟨G', F6, f', c7⟩
theorem xtm_pinf (i k : Nat) {a0 : V} {C : Addr} {ns : List Str} {As : List OA} {m : Option Bool} (h : ρ[i]? = some (some (pin a0 (aObj C ns As)))) (hk : As[k]? = some A) (kk : ∀ v, XTm X e (ρ.set i (some (pin a0 (aObj C ns (As.set k (pin v A)))))) m) : XTm X e ρ m := fun b hb => xt_pinf i k h hk fun v => kk v b hb
theorem xtm_st (ρ0 : Cl) {m : Option Bool} (h0 : ρ0 = ρ) (h : XTm X e ρ0 m) : XTm X e ρ m := h0 ▸ h
/-- x in xs, x not in xs: ints -/
theorem xk_in {x : Int} {xs : List Int} (ha : XE X a ρ ρ1 (aD X.K (.int x))) (hb : XE X b ρ1 ρ2 B) (r : Rls X.K ρ2 B (xs.map PyData.int)) (hm : behindInMarks .In b = false := by first | rfl | exact nomark _) : XKm X (.Compare a [.In] [b] pos) ρ ρ2 (decide (x ∈ xs)) :=
  ⟨_, pe_cmpR op_in_seq peS peS hm, pt_cmpR op_in_seq peS peS hm, fun E T t σ H l st Q kk => ha E T t σ H l st _ fun u H1 st1 => hb E (_ :: T) (_ :: t) σ H1 (by simp [l]) st1 _ fun y H2 st2 => by
    obtain ⟨G, F, Fv, Fw, f, c, q1, q2⟩ := ST.two st2
    obtain ⟨q1, _⟩ := q1
    cases q1
    obtain ⟨p, ys, e1, e2, e3⟩ := r l c f.gh q2
    have e4 := dq_vints e3
    subst e4
    refine ⟨p, _, e1, .inl e2, rfl, ?_, ?_⟩
    · rw [List.all_map]
      exact List.all_eq_true.mpr fun _ _ => rfl
    · show Q (V.bl (inV (V.int x) (xs.map V.int))) H2
      rw [inV_int]
      exact kk _ _ (ST.put f c (.bl _))⟩
theorem xk_nin {x : Int} {xs : List Int} (ha : XE X a ρ ρ1 (aD X.K (.int x))) (hb : XE X b ρ1 ρ2 B) (r : Rls X.K ρ2 B (xs.map PyData.int)) (hm : behindInMarks .NotIn b = false := by first | rfl | exact nomark _) : XKm X (.Compare a [.NotIn] [b] pos) ρ ρ2 (!decide (x ∈ xs)) :=
  ⟨_, pe_cmpR op_notIn_seq peS peS hm, pt_cmpR op_notIn_seq peS peS hm, fun E T t σ H l st Q kk => ha E T t σ H l st _ fun u H1 st1 => hb E (_ :: T) (_ :: t) σ H1 (by simp [l]) st1 _ fun y H2 st2 => by
    obtain ⟨G, F, Fv, Fw, f, c, q1, q2⟩ := ST.two st2
    obtain ⟨q1, _⟩ := q1
    cases q1
    obtain ⟨p, ys, e1, e2, e3⟩ := r l c f.gh q2
    have e4 := dq_vints e3
    subst e4
    refine ⟨p, _, e1, .inl e2, rfl, ?_, ?_⟩
    · rw [List.all_map]
      exact List.all_eq_true.mpr fun _ _ => rfl
    · show Q (V.bl (!inV (V.int x) (xs.map V.int))) H2
      rw [inV_int]
      exact kk _ _ (ST.put f c (.bl _))⟩
/-- max(xs), min(xs) of ints -/
def maxI : List Int → Option Int
  | [] => none
  | x :: xs => some (xs.foldl max x)
def minI : List Int → Option Int
  | [] => none
  | x :: xs => some (xs.foldl min x)
theorem foldl_max : ∀ (xs : List Int) (x : Int), (xs.foldl max x ∈ x :: xs) ∧ ∀ y ∈ x :: xs, y ≤ xs.foldl max x
  | [], x => ⟨by simp, fun y hy => by simp at hy; show y ≤ x; omega⟩
  | z :: xs, x => by
    obtain ⟨h1, h2⟩ := foldl_max xs (max x z)
    have hm := h2 (max x z) (by simp)
    refine ⟨?_, fun y hy => ?_⟩
    · show xs.foldl max (max x z) ∈ _
      rcases List.mem_cons.mp h1 with e | e
      · rw [e]
        by_cases q : x ≤ z
        · rw [Int.max_eq_right q]; simp
        · rw [Int.max_eq_left (by omega)]; simp
      · simp [e]
    · show y ≤ xs.foldl max (max x z)
      rcases List.mem_cons.mp hy with e | e
      · have : x ≤ max x z := by omega
        omega
      · rcases List.mem_cons.mp e with e | e
        · have : z ≤ max x z := by omega
          omega
        · exact h2 y (by simp [e])
theorem foldl_min : ∀ (xs : List Int) (x : Int), (xs.foldl min x ∈ x :: xs) ∧ ∀ y ∈ x :: xs, xs.foldl min x ≤ y
  | [], x => ⟨by simp, fun y hy => by simp at hy; show x ≤ y; omega⟩
  | z :: xs, x => by
    obtain ⟨h1, h2⟩ := foldl_min xs (min x z)
    have hm := h2 (min x z) (by simp)
    refine ⟨?_, fun y hy => ?_⟩
    · show xs.foldl min (min x z) ∈ _
      rcases List.mem_cons.mp h1 with e | e
      · rw [e]
        by_cases q : x ≤ z
        · rw [Int.min_eq_left q]; simp
        · rw [Int.min_eq_right (by omega)]; simp
      · simp [e]
    · show xs.foldl min (min x z) ≤ y
      rcases List.mem_cons.mp hy with e | e
      · have : min x z ≤ x := by omega
        omega
      · rcases List.mem_cons.mp e with e | e
        · have : min x z ≤ z := by omega
          omega
        · exact h2 y (by simp [e])
theorem xe_max1 {xs : List Int} {r : Int} {p : Pos} (hc : X.calm = true) (hr : maxI xs = some r) (ha : XE X a ρ ρ1 A) (rl : Rls X.K ρ1 A (xs.map PyData.int)) (hm : X.mg "max" = none) (hg : Gl X "max" := by rfl) (hs : starEach [a] X.env = [(false, eval a X.env)] := by rfl) (hpl : (backTo pos (starEach [] X.env)).any (·.1) = false := by rfl) : XE X (.Call (.Name "max" p) [a] [] pos) ρ ρ1 (aD X.K (.int r)) :=
  xe_callB (cr_max hc) (xa_cons ha xa_nil hs) (fun E T t σ vs H Q l hl st k => by
    obtain ⟨v, rfl⟩ := vs1 hl
    obtain ⟨G, F, Fv, f, c, q⟩ := ST.one st
    obtain ⟨p1, ys, e1, e2, e3⟩ := rl l c f.gh q
    have e := dq_vints e3
    subst e
    cases xs with
    | nil => cases hr
    | cons x xs =>
      cases hr
      obtain ⟨h1, h2⟩ := foldl_max xs x
      refine ⟨p1, _, by rw [e1], e2, by simp, fun m hm hle => ?_⟩
      have e : m = xs.foldl max x := Int.le_antisymm (h2 m hm) (hle _ h1)
      subst e
      exact k _ _ (ST.put f c (.int _))) hm (by decide +kernel) hg (by decide) (by decide) hs hpl
theorem xe_min1 {xs : List Int} {r : Int} {p : Pos} (hc : X.calm = true) (hr : minI xs = some r) (ha : XE X a ρ ρ1 A) (rl : Rls X.K ρ1 A (xs.map PyData.int)) (hm : X.mg "min" = none) (hg : Gl X "min" := by rfl) (hs : starEach [a] X.env = [(false, eval a X.env)] := by rfl) (hpl : (backTo pos (starEach [] X.env)).any (·.1) = false := by rfl) : XE X (.Call (.Name "min" p) [a] [] pos) ρ ρ1 (aD X.K (.int r)) :=
  xe_callB (cr_min hc) (xa_cons ha xa_nil hs) (fun E T t σ vs H Q l hl st k => by
    obtain ⟨v, rfl⟩ := vs1 hl
    obtain ⟨G, F, Fv, f, c, q⟩ := ST.one st
    obtain ⟨p1, ys, e1, e2, e3⟩ := rl l c f.gh q
    have e := dq_vints e3
    subst e
    cases xs with
    | nil => cases hr
    | cons x xs =>
      cases hr
      obtain ⟨h1, h2⟩ := foldl_min xs x
      refine ⟨p1, _, by rw [e1], e2, by simp, fun m hm hle => ?_⟩
      have e : m = xs.foldl min x := Int.le_antisymm (hle _ h1) (h2 m hm)
      subst e
      exact k _ _ (ST.put f c (.int _))) hm (by decide +kernel) hg (by decide) (by decide) hs hpl
end
end Mr

set_option Elab.async false
set_option linter.all false
set_option maxRecDepth 100000
/-! and, or whose operands change something -/
namespace Mr
open PySem PySem.Spec PyProof.Rows L2
section
variable {X : Cx} {ρ ρ1 ρ2 : Cl} {a b e : Expr} {pos : Pos} {β κ : Type} {N : β → Cl} {rest : List Expr}
def XTs (X : Cx) {β : Type} (e : Expr) (ρ : Cl) (m : Option (Bool × β)) (N : β → Cl) : Prop := ∀ r, m = some r → XT X e ρ (N r.2) r.1
def XWs (X : Cx) {β : Type} (e : Expr) (ρ : Cl) (m : Option (Bool × β)) (N : β → Cl) : Prop := ∀ r, m = some r → XW X e ρ (N r.2) r.1
theorem xts_some {k : Bool} {s : β} (h : XT X e ρ ρ1 k) (q : N s = ρ1) : XTs X e ρ (some (k, s)) N := fun r hr => by
  cases hr
  show XT X e ρ (N s) k
  rw [q]; exact h
theorem xts_bind {m1 : Option κ} {f : κ → Option (Bool × β)} (h : ∀ x, m1 = some x → XTs X e ρ (f x) N) : XTs X e ρ (m1.bind f) N := fun o ho => by
  cases hm : m1 with
  | none => rw [hm] at ho; cases ho
  | some x => rw [hm] at ho; exact h x hm o ho
theorem xws_and1 {m : Option (Bool × β)} (h : XTs X a ρ m N) : XWs X (.BoolOp .And [a] pos) ρ m N := fun r hr => xw_and1 (h r hr)
theorem xws_or1 {m : Option (Bool × β)} (h : XTs X a ρ m N) : XWs X (.BoolOp .Or [a] pos) ρ m N := fun r hr => xw_or1 (h r hr)
theorem xws_and {m : Option (Bool × β)} {f : β → Option (Bool × β)} (h : XTs X a ρ m N) (h2 : ∀ s, XWs X (.BoolOp .And (b :: rest) pos) (N s) (f s) N) : XWs X (.BoolOp .And (a :: b :: rest) pos) ρ (m.bind fun r => if r.1 = true then f r.2 else some (false, r.2)) N := fun r hr => by
  cases hm : m with
  | none => rw [hm] at hr; cases hr
  | some q =>
    rw [hm] at hr
    obtain ⟨k, s⟩ := q
    have h1 := h _ hm
    intro E T t σ H l st Q kk
    refine wW.of (pw_and ptS pwS) (h1 E T t σ H l st _ fun H1 st1 => ?_)
    cases k with
    | true => exact h2 s r hr E T t σ H1 l st1 Q kk
    | false => cases hr; exact kk H1 st1
theorem xws_or {m : Option (Bool × β)} {f : β → Option (Bool × β)} (h : XTs X a ρ m N) (h2 : ∀ s, XWs X (.BoolOp .Or (b :: rest) pos) (N s) (f s) N) : XWs X (.BoolOp .Or (a :: b :: rest) pos) ρ (m.bind fun r => if r.1 = true then some (true, r.2) else f r.2) N := fun r hr => by
  cases hm : m with
  | none => rw [hm] at hr; cases hr
  | some q =>
    rw [hm] at hr
    obtain ⟨k, s⟩ := q
    have h1 := h _ hm
    intro E T t σ H l st Q kk
    refine wW.of (pw_or ptS pwS) (h1 E T t σ H l st _ fun H1 st1 => ?_)
    cases k with
    | false => exact h2 s r hr E T t σ H1 l st1 Q kk
    | true => cases hr; exact kk H1 st1
theorem xt_ws {m : Option (Bool × β)} {c : Bool × β} (h : XWs X e ρ m N) (hm : m = some c) : XT X e ρ (N c.2) c.1 := xt_w (h c hm)
/-- as values -/
def XBs (X : Cx) {β : Type} (e : Expr) (ρ : Cl) (m : Option (Bool × β)) (N : β → Cl) : Prop := ∀ r, m = some r → XE X e ρ (N r.2) (aD X.K (.bool r.1))
theorem xbs_some {k : Bool} {s : β} (h : XE X e ρ ρ1 (aD X.K (.bool k))) (q : N s = ρ1) : XBs X e ρ (some (k, s)) N := fun r hr => by
  cases hr
  show XE X e ρ (N s) _
  rw [q]; exact h
theorem xbs_bind {m1 : Option κ} {f : κ → Option (Bool × β)} (h : ∀ x, m1 = some x → XBs X e ρ (f x) N) : XBs X e ρ (m1.bind f) N := fun o ho => by
  cases hm : m1 with
  | none => rw [hm] at ho; cases ho
  | some x => rw [hm] at ho; exact h x hm o ho
theorem xbs_and1 {m : Option (Bool × β)} (h : XBs X a ρ m N) : XBs X (.BoolOp .And [a] pos) ρ m N := fun r hr => xe_one (h r hr)
theorem xbs_or1 {m : Option (Bool × β)} (h : XBs X a ρ m N) : XBs X (.BoolOp .Or [a] pos) ρ m N := fun r hr => xe_one (h r hr)
theorem xbs_and {m : Option (Bool × β)} {f : β → Option (Bool × β)} (h : XBs X a ρ m N) (h2 : ∀ s, XBs X (.BoolOp .And (b :: rest) pos) (N s) (f s) N) : XBs X (.BoolOp .And (a :: b :: rest) pos) ρ (m.bind fun r => if r.1 = true then f r.2 else some (false, r.2)) N := fun r hr => by
  cases hm : m with
  | none => rw [hm] at hr; cases hr
  | some q =>
    rw [hm] at hr
    obtain ⟨k, s⟩ := q
    have h1 := h _ hm
    intro E T t σ H l st Q kk
    refine wE.of (pe_and peS peS) (h1 E T t σ H l st _ fun x H1 st1 => ?_)
    obtain ⟨G, F, f, cs, q⟩ := ST.top st1
    cases q
    refine ⟨k, rfl, ?_⟩
    cases k with
    | true => exact h2 s r hr E T t σ H1 l ⟨G, F, f, cs⟩ Q kk
    | false => cases hr; exact kk _ H1 (ST.put f cs (.bl _))
theorem xbs_or {m : Option (Bool × β)} {f : β → Option (Bool × β)} (h : XBs X a ρ m N) (h2 : ∀ s, XBs X (.BoolOp .Or (b :: rest) pos) (N s) (f s) N) : XBs X (.BoolOp .Or (a :: b :: rest) pos) ρ (m.bind fun r => if r.1 = true then some (true, r.2) else f r.2) N := fun r hr => by
  cases hm : m with
  | none => rw [hm] at hr; cases hr
  | some q =>
    rw [hm] at hr
    obtain ⟨k, s⟩ := q
    have h1 := h _ hm
    intro E T t σ H l st Q kk
    refine wE.of (pe_or peS peS) (h1 E T t σ H l st _ fun x H1 st1 => ?_)
    obtain ⟨G, F, f, cs, q⟩ := ST.top st1
    cases q
    refine ⟨k, rfl, ?_⟩
    cases k with
    | false => exact h2 s r hr E T t σ H1 l ⟨G, F, f, cs⟩ Q kk
    | true => cases hr; exact kk _ H1 (ST.put f cs (.bl _))
theorem xe_bs {m : Option (Bool × β)} {c : Bool × β} (h : XBs X e ρ m N) (hm : m = some c) : XE X e ρ (N c.2) (aD X.K (.bool c.1)) := h c hm
end
end Mr

set_option Elab.async false
set_option linter.all false
set_option maxRecDepth 100000
/-! min of a dict's keys -/
namespace Mr
open PySem PySem.Spec PyProof.Rows L2
section
variable {X : Cx} {ρ ρ1 : Cl} {o : Expr} {pos p : Pos} {v0 : V} {w : OA → Cl} {α : Type} [Cd α] {kvs : List (Int × α)}
theorem xe_dmin {r : Int} (hc : X.calm = true) (hr : minI (dKeys kvs) = some r) (ho : XE X o ρ ρ1 (aV v0)) (O : Own ρ1 v0 (aDK X.K (dD kvs)) w) (hm : X.mg "min" = none) (hg : Gl X "min" := by rfl) (hs : starEach [o] X.env = [(false, eval o X.env)] := by rfl) (hpl : (backTo pos (starEach [] X.env)).any (·.1) = false := by rfl) : XE X (.Call (.Name "min" p) [o] [] pos) ρ ρ1 (aD X.K (.int r)) :=
  xe_callB (cr_minK hc) (xa_cons ho xa_nil hs) (fun E T t σ vs H Q l hl st k => by
    obtain ⟨v, rfl⟩ := vs1 hl
    have e0 := ST.topV st
    subst e0
    obtain ⟨G, F, f, c⟩ := ST.pop st
    obtain ⟨q, ws, e1, h1, h2⟩ := ST.seeD l c O
    cases hk : dKeys kvs with
    | nil => rw [hk] at hr; cases hr
    | cons x xs =>
      rw [hk] at hr
      cases hr
      obtain ⟨m1, m2⟩ := foldl_min xs x
      refine ⟨q, ws, dKeys kvs, by rw [e1], h1, by rw [h2.keys, dKeys_d], by rw [hk]; simp, fun m hm hle => ?_⟩
      rw [hk] at hm hle
      have e : m = xs.foldl min x := Int.le_antisymm (hle _ m1) (m2 m hm)
      subst e
      exact k _ _ (ST.put f c (.int _))) hm (by decide +kernel) hg (by decide) (by decide) hs hpl
end
end Mr

set_option Elab.async false
set_option linter.all false
set_option maxRecDepth 100000
/-! range(a, b, c) -/
namespace Mr
open PySem PySem.Spec PyProof.Rows L2
/-- lo, lo + c, .. (n of them) -/
def rangeC (lo c : Int) (n : Nat) : List Int := (List.range n).map fun i : Nat => lo + (i : Int) * c
theorem rangeC_len (lo c : Int) (n : Nat) : (rangeC lo c n).length = n := by unfold rangeC; rw [List.length_map, List.length_range]
theorem rangeC_at {lo c : Int} {n i : Nat} (h : i < n) : (rangeC lo c n)[i]? = some (lo + (i : Int) * c) := by
  unfold rangeC
  rw [List.getElem?_map, List.getElem?_range h]
  rfl
theorem rangeC_get {lo c : Int} {n i : Nat} {x : Int} (h : (rangeC lo c n)[i]? = some x) : x = lo + (i : Int) * c ∧ i < n := by
  have hl := lt_of_get h
  rw [rangeC_len] at hl
  rw [rangeC_at hl] at h
  cases h
  exact ⟨rfl, hl⟩
def rgN (a b c : Int) : Nat := (Builtin.Range.rangeSize a b c).toNat
def RgOk (a b c : Int) : Prop := c ≠ 0 ∧ c.natAbs < 1073741824 ∧ Builtin.Range.small a b c = true ∧ 0 ≤ Builtin.Range.rangeSize a b c
instance : Decidable (RgOk a b c) := by unfold RgOk; exact inferInstance
theorem rgN_up {a b c : Int} (hc : 0 < c) : (rgN a b c : Int) = if a < b then (b - a - 1) / c + 1 else 0 := by
  unfold rgN Builtin.Range.rangeSize
  rw [if_pos hc]
  split
  · have : 0 ≤ (b - a - 1) / c := Int.ediv_nonneg (by omega) (by omega)
    omega
  · rfl
theorem rgN_down {a b : Int} : rgN a b (-1) = (a - b).toNat := by
  unfold rgN
  rw [PySem.W.rangeSize_downNat]
  rfl
theorem rgOk_down {a b : Int} (ha : -(2 ^ 62) ≤ a) (ha' : a < 2 ^ 62) (hb : -(2 ^ 62) ≤ b) (hb' : b < 2 ^ 62) : RgOk a b (-1) :=
  ⟨by decide, by decide, PySem.W.small_down ha ha' hb hb', by rw [PySem.W.rangeSize_downNat]; omega⟩
theorem rgOk_up {a b c : Int} (hc : 0 < c) (hc' : c < 1000000) (ha : 0 ≤ a) (ha' : a < 1000000) (hb : 0 ≤ b) (hb' : b < 1000000) : RgOk a b c := by
  have hs : 0 ≤ Builtin.Range.rangeSize a b c ∧ Builtin.Range.rangeSize a b c ≤ 1000001 := by
    unfold Builtin.Range.rangeSize
    rw [if_pos hc]
    split
    · have h1 : 0 ≤ (b - a - 1) / c := Int.ediv_nonneg (by omega) (by omega)
      have h2 : (b - a - 1) / c ≤ b - a - 1 := Int.ediv_le_self _ (by omega)
      omega
    · omega
  refine ⟨by omega, by omega, ?_, hs.1⟩
  unfold Builtin.Range.small
  simp only [Builtin.Range.rangeFitsLong, Bool.and_eq_true, Bool.or_eq_true, decide_eq_true_eq, beq_iff_eq, if_pos hc]
  omega
section
variable {X : Cx} {ρ ρ1 ρ2 ρ3 : Cl} {a b c : Expr} {tg : Expr} {pos p : Pos}
theorem itc_gives {E : Ent} (lo k : Int) (n : Nat) : Gives (Itc lo k n) E okAll (rangeC lo k n) (fun x => aD X.K (.int x)) where
  go := fun i hi _ _ _ _ _ _ _ _ => by rw [rangeC_len] at hi; exact hi
  stop := fun _ _ _ _ _ _ _ _ => by rw [rangeC_len]; exact Nat.le_refl _
  yld := fun i x v H H' hx T t L C l _ st y => by
    obtain ⟨e1, e2⟩ := y
    obtain ⟨e3, _⟩ := rangeC_get hx
    subst e1 e2 e3
    obtain ⟨G, F, f, c⟩ := st
    exact ST.put f c (.int _)
theorem xi_range3 {n m k : Int} (hg : Gl X "range") (hm : X.mg "range" = none) (ok : RgOk n m k) (ha : XE X a ρ ρ1 (aD X.K (.int n))) (hb : XE X b ρ1 ρ2 (aD X.K (.int m))) (hc : XE X c ρ2 ρ3 (aD X.K (.int k)))
    (hs : starEach [a, b, c] X.env = [(false, eval a X.env), (false, eval b X.env), (false, eval c X.env)] := by rfl) (hs2 : starEach [b, c] X.env = [(false, eval b X.env), (false, eval c X.env)] := by rfl) (hs3 : starEach [c] X.env = [(false, eval c X.env)] := by rfl) :
    XI X tg (.Call (.Name "range" p) [a, b, c] [] pos) ρ ρ3 okAll (rangeC n k (rgN n m k)) (fun x => aD X.K (.int x)) := fun E T t σ H l st R kk =>
  wI.of (pi_range3 hg hm (pa_cons peS (pa_cons peS (pa_cons peS pa_nil hs3) (by rw [hs2, hs3])) (by rw [hs, hs2])) (by rw [hs, hs2]) (by rw [hs2]; rfl)) (ha E T t σ H l st _ fun v H1 st1 => hb E (_ :: T) (_ :: t) σ H1 (by simp [l]) st1 _ fun w H2 st2 => hc E (_ :: _ :: T) (_ :: _ :: t) σ H2 (by simp [l]) st2 _ fun u H3 st3 => by
    obtain ⟨G, F, f, cs, q1⟩ := ST.top st3
    cases q1
    obtain ⟨G2, F2, f2, cs2, q2, q3⟩ := ST.top2 ⟨G, F, f, cs⟩
    cases q2
    cases q3
    exact ⟨n, m, k, rgN n m k, rfl, ⟨ok.1, ok.2.1, ok.2.2.1, (Int.toNat_of_nonneg ok.2.2.2).symm⟩, kk _ E _ (.refl _) ⟨G2, F2, f2, cs2⟩ (itc_gives n k (rgN n m k))⟩)
/-- what stands behind the iterated thing may be told more weakly -/
theorem xi_weak {α : Type} {iter : Expr} {ρ ρ1 : Cl} {xs : List α} {cv : α → OA} (hi : XI X tg iter ρ ρ1 okAll xs cv) (i : Nat) {B B' : OA} (h : ρ1[i]? = some (some B)) (w : Imp B B') : XI X tg iter ρ (ρ1.set i (some B')) okAll xs cv := fun E T t σ H l st R k =>
  hi E T t σ H l st R fun J E' H' lt st1 gv => k J E' H' lt (by
    obtain ⟨G, F, f, c⟩ := st1
    have q := Cs.weak (i := T.length + i) (A := B) (B := B') c (by rw [append_get_right]; exact h) w
    rw [append_set_right] at q
    exact ⟨G, F, f, q⟩) gv
end
end Mr

set_option Elab.async false
set_option linter.all false
set_option maxRecDepth 100000
/-! exceptions: what a def raises has its own mirror (some z: it raises; none: nothing is said), beside the mirror of what it returns -/
namespace Mr
open PySem PySem.Spec PyProof.Rows L2

/-- an own exception class (over ValueError) at a module's name -/
structure ExK (K : PySem.W.Frag) (mg : Str → Option Value) (x : Str) (C : Addr) : Prop where
  g : mg x = some (.ref C)
  q : PySem.W.excIn K C [.type "ValueError", .type "Exception", .type "BaseException", .type "object"] "ValueError.__new__" = true
  k : PySem.W.keepIn K (.ref C) = true
  b : PySem.W.subIn K (.ref C) (.type "BaseException") = some true
  t : PySem.W.typeIn K (.ref C) = some (.type "type")
section
variable {X : Cx} {C : Addr} {x : Str} {p pos : Pos}
/-- C() -/
theorem pmk_own0 (T : ExK X.K X.mg x C) (hg : Gl X x) (hdb : (x == ("__debug__" : Str)) = false := by decide) : PMk X (.Call (.Name x p) [] [] pos) (fun _ H Q => Q (.ref C) none H) := by
  intro pins s σ H Q I h
  refine wpAny_Call_Name_kw (ld_glob I hg T.g (PySem.W.callWith_K0 I.kIn T.k ?_) hdb)
  obtain ⟨_, _, _, _, _, _, _, _, _, _, _, _, _, _, _, _, _, hC, hN, hni, tl⟩ := exc_obj I.kIn T.q
  exact wpAny_call_exc_subT (rest := []) PySem.F.excBase_ValueError tl hC hN hni (fun _ _ mk => mk_of I mk (raises_own T.b T.t) h (I.hok.gone mk.new)) (Nat.zero_le _)
end

/-- it raises an error of the class c -/
def oZ {ζ : Type} (W : WX) (c : Value) (R : ζ → Cl) : ζ → Ent → Ends → Prop := fun z E _ => ∀ σ' H', ST E (R z) σ' H' → W c none σ' H'
def oBZ {ζ β : Type} (W : WX) (c : Value) (R : ζ → Cl) (N : β → Cl) : ζ ⊕ β → Ent → Ends → Prop
  | .inl z => oZ W c R z
  | .inr b => oS N b
/-- a raising call: the expression raises c, and R holds -/
def XZ (X : Cx) (e : Expr) (ρ ρx : Cl) (W : WX) (c : Value) : Prop := ∀ (E : Ent) (σ : L2.St) (H : Hp), ST E ρ σ H → (∀ H', ST E ρx σ H' → W c none σ H') → ∀ Q, wE X e σ H Q

section
variable {X : Cx} {ζ β ω : Type} {sts rest : List Stmt} {ρ ρ1 ρx : Cl} {a c e : Expr} {pos p : Pos} {W : WX} {cz : Value} {R : ζ → Cl} {N : β → Cl} {Φ : ω → Ent → Ends → Prop} {A : OA}
/-- raise C() -/
theorem xg_raise {C : Addr} {x : Str} {z : ζ} {pos' : Pos} (T : ExK X.K X.mg x C) (tk : Takes X W) (hc : X.calm = true) (w : Wk ρ (R z)) (hg : Gl X x := by rfl) (hdb : (x == ("__debug__" : Str)) = false := by decide) :
    XG X (.Raise (some (.Call (.Name x p) [] [] pos)) none pos' :: rest) ρ (some z) (oZ W (.ref C) R) := fun o ho E σ H D st q => by
  cases ho
  exact wS.of (pss_cons (ps_raise hc tk (pmk_own0 T hg hdb)) pssS) (q σ H (st.wk w))
theorem xg_exprZ {z : ζ} (h : XZ X e ρ ρx W cz) (w : Wk ρx (R z)) (hs : swapsWith e none pos.line X.env = pure false := by rfl) : XG X (.Expr e pos :: rest) ρ (some z) (oZ W cz R) := fun o ho E σ H D st q => by
  cases ho
  exact wS.of (pss_cons (ps_expr peS hs) pssS) (h E σ H st (fun H' st1 => q σ H' (st1.wk w)) _)
theorem xg_asgZ {z : ζ} (i : Nat) {x : Str} {pos' : Pos} (h : XZ X e ρ ρx W cz) (w : Wk ρx (R z)) (hN : X.N.Nodup := by assumption) (hi : X.N[i]? = some x := by rfl) (hx : Loc X.env.scope x := by first | exact .inl rfl | exact .inr rfl)
    (hs : swapsWith e (some (.Name x pos')) pos.line X.env = pure false := by rfl) (hf : X.fn x = true ∨ X.env.scope.names.lookup x = some .local := by first | exact .inl rfl | exact .inr rfl | assumption) : XG X (.Assign [.Name x pos'] e pos :: rest) ρ (some z) (oZ W cz R) := fun o ho E σ H D st q => by
  cases ho
  exact wS.of (pss_cons (ps_set hN hi hx peS hs hf) pssS) (h E σ H st (fun H' st1 => q σ H' (st1.wk w)) _)
theorem xg_retZ {z : ζ} (h : XZ X e ρ ρx W cz) (w : Wk ρx (R z)) : XG X (.Return (some e) pos :: rest) ρ (some z) (oZ W cz R) := fun o ho E σ H D st q => by
  cases ho
  exact wS.of (pss_cons (ps_ret peS) pssS) (h E σ H st (fun H' st1 => q σ H' (st1.wk w)) _)
/-- first what raises, else what goes on -/
def orZ (mz : Option ζ) (f : ζ → ω) (k : Option ω) : Option ω := match mz with
  | some z => some (f z)
  | none => k
theorem xg_orZ {mz : Option ζ} {f : ζ → ω} {k : Option ω} (hz : ∀ z, mz = some z → XG X sts ρ (some (f z)) Φ) (h : XG X sts ρ k Φ) : XG X sts ρ (orZ mz f k) Φ := by
  cases mz with
  | none => exact h
  | some z => exact hz z rfl
/-- if, where each branch raises or is not spoken of -/
theorem xg_ifZ {k : Bool} {t u : List Stmt} {m1 m2 : Option ζ} (hc : XT X c ρ ρ1 k) (h1 : k = true → XG X t ρ1 m1 (oZ W cz R)) (h2 : k = false → XG X u ρ1 m2 (oZ W cz R)) : XG X (.If c t u pos :: rest) ρ (if k = true then m1 else m2) (oZ W cz R) := fun o ho E σ H D st q =>
  wS.of (pss_cons (ps_if ptS pssS pssS) pssS) (hc E [] [] σ H rfl st _ fun H1 st1 => by
    cases k with
    | true => exact h1 rfl o ho E σ H1 _ st1 q
    | false => exact h2 rfl o ho E σ H1 _ st1 q)
/-- if c: raise; then the rest -/
theorem xg_ifZR {k : Bool} {t : List Stmt} {m1 m2 : Option ζ} (hc : XT X c ρ ρ1 k) (h1 : k = true → XG X t ρ1 m1 (oZ W cz R)) (h2 : k = false → XG X rest ρ1 m2 (oZ W cz R)) : XG X (.If c t [] pos :: rest) ρ (if k = true then m1 else m2) (oZ W cz R) := fun o ho E σ H D st q =>
  wS.of (pss_cons (ps_if ptS pssS pssS) pssS) (hc E [] [] σ H rfl st _ fun H1 st1 => by
    cases k with
    | true => exact h1 rfl o ho E σ H1 _ st1 q
    | false => exact wS.of pss_nil (h2 rfl o ho E σ H1 D st1 q))
theorem xg_ifZB {k : Bool} {t : List Stmt} {m1 : Option ζ} {m2 : Option (ζ ⊕ β)} (hc : XT X c ρ ρ1 k) (h1 : k = true → XG X t ρ1 m1 (oZ W cz R)) (h2 : k = false → XG X rest ρ1 m2 (oBZ W cz R N)) : XG X (.If c t [] pos :: rest) ρ (if k = true then m1.map Sum.inl else m2) (oBZ W cz R N) := fun o ho E σ H D st q =>
  wS.of (pss_cons (ps_if ptS pssS pssS) pssS) (hc E [] [] σ H rfl st _ fun H1 st1 => by
    cases k with
    | true =>
      cases m1 with
      | none => cases ho
      | some r => cases ho; exact h1 rfl r rfl E σ H1 _ st1 q
    | false => exact wS.of pss_nil (h2 rfl o ho E σ H1 D st1 q))
theorem xg_nilBZ {b : β} (w : Wk ρ (N b)) : XG X [] ρ (some (Sum.inr b)) (oBZ W cz R N) := fun o ho E σ H D st q => by
  cases ho
  exact wS.of pss_nil (q σ H (st.wk w))
end

/-! ### a walk whose turns may raise -/
section
variable {X : Cx} {α ζ β : Type} {body rest : List Stmt} {ρ ρ1 : Cl} {tg iter : Expr} {pos : Pos} {W : WX} {cz : Value} {R : ζ → Cl} {N : β → Cl}
theorem forBZ {g : TG} {xs : List α} {f : β → α → Option (ζ ⊕ β)} {s0 : β} {In : α → β → Cl} {D : Ends} {E : Ent} {σ : L2.St} {H : Hp} {o1 : ζ ⊕ β}
    (J : It) (hs : foldB f xs s0 = some o1) (st : ST E (N s0) σ H) (hk : ∀ s1, o1 = .inr s1 → ∀ σ' H', ST E (N s1) σ' H' → D.nx σ' H') (hr : ∀ r, o1 = .inl r → oZ W cz R r E D)
    (go : ∀ n s σ' H', n < xs.length → ST E (N s) σ' H' → J.go n H') (stop : ∀ s σ' H', ST E (N s) σ' H' → J.stop xs.length H')
    (yld : ∀ n x s σ' H' v H2, xs[n]? = some x → ST E (N s) σ' H' → J.yld n H' v H2 → ∀ P : L2.St → Hp → Prop, (∀ σ2 H3, ST E (In x s) σ2 H3 → P σ2 H3) → g v σ' H2 P)
    (hb : ∀ x s, XG X body (In x s) (f s x) (oBZ W cz R N)) :
    ∃ V : Nat → Nat → L2.St → Hp → Prop, (∃ m, V 0 m σ H) ∧ ∀ i m σ H, V i m σ H →
      (J.stop i H ∧ D.nx σ H) ∨ (J.go i H ∧ ∃ Nx : L2.St → Hp → Prop, (∀ σ' H', Nx σ' H' → ∃ m', m' < m ∧ V (i + 1) m' σ' H') ∧ ∀ x H', J.yld i H x H' → g x σ H' fun σ2 H2 => wS X body { D with nx := Nx, ct := Nx, bk := D.nx } σ2 H2) := by
  refine ⟨fun n m σ H => m = xs.length - n ∧ n ≤ xs.length ∧ ∃ s, foldB f (xs.drop n) s = some o1 ∧ ST E (N s) σ H, ⟨xs.length, by simp, Nat.zero_le _, s0, by simpa using hs, st⟩, ?_⟩
  rintro n m σ H ⟨rfl, hn, s, hf, st⟩
  by_cases hlt : n < xs.length
  · have ed : xs.drop n = xs[n] :: xs.drop (n + 1) := List.drop_eq_getElem_cons hlt
    rw [ed] at hf
    have hf : thenR (f s xs[n]) (foldB f (xs.drop (n + 1))) Sum.inl = some o1 := hf
    unfold thenR at hf
    cases hfx : f s xs[n] with
    | none => rw [hfx] at hf; cases hf
    | some o2 =>
      rw [hfx] at hf
      cases o2 with
      | inr s2 =>
        have hf : foldB f (xs.drop (n + 1)) s2 = some o1 := hf
        refine .inr ⟨go n s σ H hlt st, fun σ' H' => ST E (N s2) σ' H', fun σ' H' st' => ⟨xs.length - (n + 1), by omega, rfl, hlt, s2, hf, st'⟩, fun v H' y => ?_⟩
        refine yld n xs[n] s σ H v H' (List.getElem?_eq_getElem hlt) st y _ fun σ2 H2 p => ?_
        exact hb xs[n] s _ hfx E σ2 H2 _ p fun σ' H' st' => st'
      | inl r =>
        have hf : some (Sum.inl r) = some o1 := hf
        cases hf
        refine .inr ⟨go n s σ H hlt st, fun σ' H' => False, fun σ' H' st' => st'.elim, fun v H' y => ?_⟩
        refine yld n xs[n] s σ H v H' (List.getElem?_eq_getElem hlt) st y _ fun σ2 H2 p => ?_
        exact hb xs[n] s _ hfx E σ2 H2 _ p (hr r rfl)
  · have e : n = xs.length := by omega
    subst e
    rw [List.drop_length] at hf
    have hf : some (Sum.inr s) = some o1 := hf
    cases hf
    exact .inl ⟨stop s σ H st, hk s rfl σ H st⟩
theorem xg_forZ {Ok : Cl → Prop} {xs : List α} {cv : α → OA} {f : β → α → Option (ζ ⊕ β)} {s0 : β} {In : α → β → Cl} {kk : β → Option ζ} (hp : PassesOwn (model X.prog X.w) X.A X.env X.xe) (hc : X.calm = true) (hi : XI X tg iter ρ ρ1 Ok xs cv) (hw : Wk ρ1 (N s0)) (hok : ∀ s, Ok (N s))
    (ht : ∀ x s, XP X tg (cv x) (N s) (In x s)) (hb : ∀ x s, XG X body (In x s) (f s x) (oBZ W cz R N)) (h : ∀ s, XG X rest (N s) (kk s) (oZ W cz R)) (hs : ∀ x, foldedSetIterable iter X.env x = pure x := by intro _; rfl) :
    XG X (.For tg iter body [] pos :: rest) ρ (thenR (foldB f xs s0) kk id) (oZ W cz R) :=
  xg_bind fun s1 h1 o ho E σ H D st q => wS.of (pss_cons (ps_for hp hc piS pgS pssS hs) pssS) (hi E [] [] σ H rfl st _ fun J E' H' lt st' gv =>
    forBZ (N := N) (In := In) (E := E') (R := R) (W := W) (cz := cz) J h1 (st'.wk hw) (fun s e σ' H' s2 => by
        subst e
        exact h s o ho E σ' H' D (lt _ _ _ s2) q)
      (fun r e => by
        subst e
        cases ho
        exact fun σ' H' s2 => q σ' H' (lt _ _ _ s2))
      (fun n s σ' H' hn st2 => gv.go n hn [] [] _ _ _ rfl (hok s) st2) (fun s σ' H' st2 => gv.stop [] [] _ _ _ rfl (hok s) st2)
      (fun n x s σ' H' v H2 hx st2 y P hP => ht x s E' [] [] σ' H2 v rfl (gv.yld n x v H' H2 hx [] [] _ _ rfl (hok s) st2 y) P hP) hb)
end

/-! ### a def that raises, and its calls -/
def SpZ {δ ζ : Type} (pre : δ → List OA) (mz : δ → Option ζ) (post : δ → ζ → Cl) (c : Value) : Sp := fun vs H _ XE' => ∃ (x : δ) (z : ζ) (G : Hp) (F : List Addr), mz x = some z ∧ Frm ⟨G, H, F⟩ G H F ∧ Cs G H ((pre x).map some) (vs.map some) F ∧ vs.length = (pre x).length ∧
  ∀ H', ST ⟨G, H, F⟩ (post x z) (vs.map some) H' → XE' c none H'
section
variable {P : Program} {w : World} {K : PySem.W.Frag} {mg : Str → Option Value} {base : Heap} {δ ζ : Type} {pre : δ → List OA} {mz : δ → Option ζ} {post : δ → ζ → Cl} {c : Value}
theorem fn_okZ {x qual : Str} {st : Stmt} {f : Addr} {fd : FuncData} {N ps : List Str} {k : Nat} (fs : List Bool) (F : Fun K x qual st f fd) (S : FnScope N ps (defScope st)) (hf : fs.length = ps.length) (hp : ∀ x, (pre x).length = ps.length) (hq : ∀ x r, (post x r).length = ps.length)
    (hb : ∀ (x : δ) (vs : List V) (cdv : Value) (A : Around) (outer : List Env) (s : Shared) (H : Hp) (E : XK) (W : WX), vs.length = ps.length → Room k (A.deeper (envOfC qual (defScope st) s.heap.objs.size f cdv)) → Takes (cxOf (L2.CX P w) P w K mg base N qual (defScope st) f cdv A outer s H E) W →
      PassesOwn (model P w) (cxOf (L2.CX P w) P w K mg base N qual (defScope st) f cdv A outer s H E).A (cxOf (L2.CX P w) P w K mg base N qual (defScope st) f cdv A outer s H E).env (cxOf (L2.CX P w) P w K mg base N qual (defScope st) f cdv A outer s H E).xe →
      XG (cxOf (L2.CX P w) P w K mg base N qual (defScope st) f cdv A outer s H E) (defBody st) (pinF fs (pre x) vs ++ List.replicate (N.length - vs.length) none) (mz x) (oZ W c fun z => pinP (post x z) vs ++ List.replicate (N.length - vs.length) none)) :
    FnOk P w K mg base (L2.CX P w) (k + 1) f fd ps (SpZ pre mz post c) := by
  refine F.okX S (fun vs H Q E h => ?_) (fun cdv A outer s H vs Q E hr h => ?_)
  · obtain ⟨x, z, G, F, _, _, _, hl, _⟩ := h
    exact hl.trans (hp x)
  · obtain ⟨x, z, G, F, hm, f, cs, hl, q⟩ := h
    have hv : vs.length = ps.length := hl.trans (hp x)
    refine ⟨_, pssS, hb x vs cdv A outer s H E (fun cls d _ H => E cls d H) hv hr (takes_of rfl rfl rfl rfl) (passes_of rfl) z hm ⟨G, H, F⟩ (L2.start N vs) H _ ⟨G, F, f, start_cs (hf.trans (hp x).symm) cs⟩ fun σ' H' st => q H' ?_⟩
    obtain ⟨G', F', f', c'⟩ := st
    exact ⟨G', F', f', c'.pinP ((hq x z).trans hv.symm)⟩
end
structure CalZ (P : Program) (w : World) (K : PySem.W.Frag) (mg : Str → Option Value) (base : Heap) (k : Nat) (x : Str) (sp : Sp) : Prop where
  ex : ∃ (f : Addr) (fd : FuncData) (ps : List Str), FnOk P w K mg base (L2.CX P w) k f fd ps sp ∧ mg x = some (.ref f) ∧ PySem.W.keepIn K (.ref f) = true ∧ Binds K fd ps []
structure CalMZ (P : Program) (w : World) (K : PySem.W.Frag) (mg : Str → Option Value) (base : Heap) (k : Nat) (C : Addr) (x : Str) (sp : Sp) : Prop where
  ex : ∃ (f : Addr) (fd : FuncData) (ps : List Str), FnOk P w K mg base (L2.CX P w) k f fd ps sp ∧ Meth K C x f ∧ Binds K fd ps []
structure CalCZ (P : Program) (w : World) (K : PySem.W.Frag) (mg : Str → Option Value) (base : Heap) (k : Nat) (C : Addr) (x : Str) (sp : Sp) : Prop where
  ex : ∃ (f : Addr) (fd : FuncData) (ps : List Str), FnOk P w K mg base (L2.CX P w) k f fd ps sp ∧ mg x = some (.ref C) ∧ Mk K C f ∧ Binds K fd ps []
section
variable {X : Cx} {ρ ρ1 ρx : Cl} {e o : Expr} {es : List Expr} {pos p apos : Pos} {A A0 B : OA} {As As0 : List OA} {ls : List (Nat × Nat × V)} {δ ζ : Type} {pre : δ → List OA} {mz : δ → Option ζ} {post : δ → ζ → Cl} {a0 : V} {w w0 : OA → Cl} {C : Addr} {ns : List Str} {x : Str} {xx : δ} {z : ζ} {Po : Cl} {W : WX} {cz : Value}
/-- f(e, ..) raises -/
theorem xz_call {k : Nat} (Q : CalZ X.prog X.w X.K X.mg X.base k x (SpZ pre mz post cz)) (tk : Takes X W) (hr : Room k X.A) (hm : mz xx = some z) (ha : XL X (e :: es) ρ ρ1 (pre xx) ls)
    (hP : (post xx z).length = (pre xx).length) (n1 : (ls.map (·.1)).Nodup) (n2 : (ls.map (·.2.1)).Nodup) (hls : ∀ p ∈ ls, ρ1[p.2.1]? = some none) (ho : backs (post xx z) ls ρ1 = ρx)
    (hg : Gl X x := by rfl) (hdb : (x == ("__debug__" : Str)) = false := by decide) (he : starEach (e :: es) X.env = (false, eval e X.env) :: starEach es X.env := by rfl) (hpl : (backTo pos (starEach es X.env)).any (·.1) = false := by rfl) :
    XZ X (.Call (.Name x p) (e :: es) [] pos) ρ ρx W cz := fun E σ H st kk Q' => by
  subst ho
  obtain ⟨f, fd, ps, F, h1, h2, h3⟩ := Q.ex
  refine wE.of (pe_callS (E := WE W) F hr hg h1 h2 h3 (passAt tk) paS hdb he hpl) (ha E [] [] σ H rfl st _ fun vs H' hl hv st' => ?_)
  obtain ⟨G, F, f, cs⟩ := st'
  obtain ⟨F1, F2, e1, c1, c2⟩ := cs.unappend (by simp [hl])
  subst e1
  refine ⟨xx, z, G, F1, hm, (f.less (List.sublist_append_left _ _)).start, c1, hl, fun H2 st2 => kk H2 ?_⟩
  obtain ⟨G2, F3, f3, c3⟩ := st2
  obtain ⟨f4, keep⟩ := f.step (Fa := F1) (Fr := F2) (.refl _) f3
  have c5 := c3.append (c2.mono f3.gg f3.gh keep)
  obtain ⟨F6, ha2, hb2, c6⟩ := cs_backs (T := []) (t := []) rfl ls (post xx z) ρ1 _ (hP.trans hl.symm) n1 (fun p hp => ⟨(hv p hp).1, (hv p hp).2, hls p hp⟩) n2 c5 f4.nd
  exact ⟨G2, F6, f4.sub ha2 hb2, c6⟩
/-- what a method's raising promise asks, at the place of its instance -/
theorem methZ_core {E : Ent} {σ : L2.St} {H : Hp} {vs : List V} {Q : VK} {XE' : XK} (hl : vs.length = As.length) (st : ST E (As.map some ++ ([] ++ ρ1)) (vs.map some ++ ([] ++ σ)) H) (hv : ∀ p ∈ ls, vs[p.1]? = some p.2.2 ∧ σ[p.2.1]? = some (some p.2.2)) (O : Own ρ1 a0 A0 w)
    (hm : mz xx = some z) (hpre : pre xx = A0 :: As) (hpost : post xx z = some B :: Po) (hP : Po.length = As.length) (n1 : (ls.map (·.1)).Nodup) (n2 : (ls.map (·.2.1)).Nodup) (hls : ∀ p ∈ ls, (w B)[p.2.1]? = some none)
    (kk : ∀ H', ST E (backs Po ls (w B)) σ H' → XE' cz none H') : SpZ pre mz post cz (a0 :: vs) H Q XE' := by
  obtain ⟨G, F, f, cs⟩ := st
  obtain ⟨F1, F2, e1, c1, c2⟩ := cs.unappend (by simp [hl])
  subst e1
  obtain ⟨Fo, Fr, e2, qo, go⟩ := O.get (T := []) (t := []) rfl c2
  have pm : (F1 ++ F2).Perm ((Fo ++ F1) ++ Fr) := by
    refine (List.Perm.append_left F1 e2).trans ?_
    rw [← List.append_assoc]
    exact List.Perm.append_right Fr List.perm_append_comm
  have f1 := f.perm pm
  refine ⟨xx, z, G, Fo ++ F1, hm, (f1.less (List.sublist_append_left _ _)).start, ?_, by rw [hpre]; simp [hl], fun H2 st2 => kk H2 ?_⟩
  · rw [hpre]
    exact ⟨a0, Fo, F1, rfl, rfl, qo, c1⟩
  · obtain ⟨G2, F3, f3, c3⟩ := st2
    rw [hpost] at c3
    obtain ⟨u, FB, FP, e5, e6, qB, c4⟩ := c3
    cases e5
    subst e6
    obtain ⟨f4, keep⟩ := f.step pm f3
    obtain ⟨F', e7, c5⟩ := go f3.gg f3.gh keep qB
    have c6 := c4.append c5
    have pm2 : (FB ++ FP ++ Fr).Perm (FP ++ F') := by
      have q1 : (FB ++ FP ++ Fr).Perm (FP ++ FB ++ Fr) := List.Perm.append_right Fr List.perm_append_comm
      refine q1.trans ?_
      rw [List.append_assoc]
      exact List.Perm.append_left FP e7.symm
    obtain ⟨F6, ha, hb, c7⟩ := cs_backs (T := []) (t := []) rfl ls Po (w B) _ (hP.trans hl.symm) n1 (fun p hp => ⟨(hv p hp).1, (hv p hp).2, hls p hp⟩) n2 c6 ((pm2.nodup_iff).mp f4.nd)
    exact ⟨G2, F6, (f4.perm pm2).sub ha hb, c7⟩
end
section
variable {X : Cx} {CX : CXT} {k : Nat} {f C : Addr} {fd : FuncData} {ps : List Str} {sp : Sp} {E : L2.St → XK} {x m : Str} {p pos apos : Pos} {e o : Expr} {es : List Expr} {ta : TE} {t : TA}
def tMethS (C : Addr) (m : Str) (sp : Sp) (E : L2.St → XK) (ta : TE) (t : TA) : TE := fun σ H Q => ta σ H fun x H1 => ∃ a dx fs, x = .ref a ∧ H1 a = some (.ins C dx fs) ∧ fs.lookup m = none ∧ t σ H1 fun vs H2 => sp (.ref a :: vs) H2 Q (E σ)
/-- o.m(e, ..), where what is raised is wished for at the caller's slots -/
theorem pe_methS {pl : Sem Bool} (he : PE X o ta) (c : Cls X.K C) (hm : Meth X.K C m f) (F : FnOk X.prog X.w X.K X.mg X.base CX k f fd ps sp) (hr : Room k X.A) (hb : Binds X.K fd ps []) (hx : ∀ σ, PassesAt CX X σ (E σ)) (ha : PA X (e :: es) t)
    (hst : starEach (e :: es) X.env = (false, eval e X.env) :: starEach es X.env) (hpl : (backTo pos (starEach es X.env)).any (·.1) = false)
    (ht : eval (.Call (.Attribute o m apos) (e :: es) [] pos) X.env = (do
      let ov ← eval o X.env
      standAt apos.atName
      let (f, first) ← holding [ov] (getMethod ov m pl)
      callWith pos f first (backTo pos (starEach (e :: es) X.env)) (backToKw pos (keywordEach [] X.env)))) :
    PE X (.Call (.Attribute o m apos) (e :: es) [] pos) (tMethS C m sp E ta t) := ⟨fun pins s σ H Q I h =>
  PySem.W.methodCall_KW (pl := pl) (thn (he.run pins s σ H _ I h) fun u s1 ⟨x, H1, I1, rx, a, dx, fs, ex, ea, l, q⟩ => by
    subst ex
    obtain rfl : u = Value.ref a := rx
    exact getmeth_ok I1 ea c hm l (PySem.W.callWith_K (first := [.ref a]) (h₀ := X.base) I.ok.mod.kin hm.kp (thn (ha.run pos pins s1 σ H1 _ I1 q) fun us s2 ⟨vs, H2, I2, r, q2⟩ =>
      ⟨I2.kIn, run_fnS (us := .ref a :: us) (vs := .ref a :: vs) F hr hb (hx σ) I2 (.cons rfl r) q2⟩) hst hpl)) ht⟩
def tMakeS (C : Addr) (sp : Sp) (E : L2.St → XK) (t : TA) : TE := fun σ H Q => t σ H fun vs H1 => ∀ z dx, H1 z = none → H1 dx = none → dx ≠ z → sp (.ref z :: vs) (upd (upd H1 dx (.own z)) z (.ins C dx [])) (fun v H2 => v = .non ∧ Q (.ref z) H2) (E σ)
theorem run_makeS {pins : List (Addr × Obj)} {σ : L2.St} {H : Hp} {s : Shared} {Q : VK} {us : List Value} {vs : List V} (M : Mk X.K C f) (F : FnOk X.prog X.w X.K X.mg X.base CX k f fd ps sp) (hr : Room (k + 1) X.A) (hb : Binds X.K fd ps []) (hx : PassesAt CX X σ (E σ)) (I : Inv X pins σ H s) (r : Vals vs us)
    (h : ∀ z dx, H z = none → H dx = none → dx ≠ z → sp (.ref z :: vs) (upd (upd H dx (.own z)) z (.ins C dx [])) (fun v H2 => v = .non ∧ Q (.ref z) H2) (E σ)) :
    wpAny (model X.prog X.w) X.A (call (.ref C) us) (EP X pins σ Q) X.xe s := by
  have J := Inv.made (C := C) I
  have q0 := h (s.heap.objs.size + 1) s.heap.objs.size (I.hok.fresh (Nat.le_succ s.heap.objs.size)) (I.hok.fresh (Nat.le_refl s.heap.objs.size)) (Nat.ne_of_lt (Nat.lt_succ_self s.heap.objs.size))
  have rr : Vals (V.ref (s.heap.objs.size + 1) :: vs) (Value.ref (s.heap.objs.size + 1) :: us) := .cons rfl r
  have ln : (Value.ref (s.heap.objs.size + 1) :: us).length = ps.length := rr.length.symm.trans (F.len _ _ _ _ q0)
  have bd := hb _ (Value.ref (s.heap.objs.size + 1) :: us) J.kIn (by rw [List.append_nil]; exact ln)
  rw [List.append_nil] at bd
  refine wpAny_call (make_map (f := f) I.kIn M.makes M.init (beq_iff_eq.mp M.fn) (codeAny_mono (F.run _ X.stack _ _ ⟨_, []⟩ _ _ _ (E σ) (hr.make C us []) (J.env0.make C us []) bd rr q0) fun a s' qa => ?_))
  match a, qa with
  | .error e, qa => exact hx pins _ _ e s' J qa
  | .ok (.ret u), qa =>
    obtain ⟨v, H', I3, rv, ev, q3⟩ := J.after qa
    subst ev
    exact ⟨rv, V.ref (s.heap.objs.size + 1), H', I3, rfl, q3⟩
  | .ok .next, qa => exact False.elim qa
  | .ok .brk, qa => exact False.elim qa
  | .ok .cont, qa => exact False.elim qa
/-- C(e, ..), likewise -/
theorem pe_makeS (M : Mk X.K C f) (F : FnOk X.prog X.w X.K X.mg X.base CX k f fd ps sp) (hr : Room (k + 1) X.A) (hg : Gl X x) (hm : X.mg x = some (.ref C)) (hb : Binds X.K fd ps []) (hx : ∀ σ, PassesAt CX X σ (E σ))
    (ha : PA X (e :: es) t) (hdb : (x == ("__debug__" : Str)) = false) (he : starEach (e :: es) X.env = (false, eval e X.env) :: starEach es X.env) (hpl : (backTo pos (starEach es X.env)).any (·.1) = false) :
    PE X (.Call (.Name x p) (e :: es) [] pos) (tMakeS C sp E t) := ⟨fun pins s σ H Q I h =>
  wpAny_Call_Name_kw (ld_glob I hg hm (PySem.W.callWith_K (h₀ := X.base) I.ok.mod.kin M.kp (thn (ha.run pos pins s σ H _ I h) fun us s1 ⟨vs, H1, I1, r, q⟩ => ⟨I1.kIn, run_makeS M F hr hb (hx σ) I1 r q⟩) he hpl) hdb)⟩
end
section
variable {X : Cx} {ρ ρ1 ρx : Cl} {e o : Expr} {es : List Expr} {pos p apos : Pos} {A A0 B : OA} {As As0 : List OA} {ls : List (Nat × Nat × V)} {δ ζ : Type} {pre : δ → List OA} {mz : δ → Option ζ} {post : δ → ζ → Cl} {a0 : V} {w w0 : OA → Cl} {C : Addr} {ns : List Str} {x : Str} {xx : δ} {z : ζ} {Po : Cl} {W : WX} {cz : Value}
/-- o.m(e, ..) raises -/
theorem xz_meth {k : Nat} {pl : Sem Bool} (M : CalMZ X.prog X.w X.K X.mg X.base k C x (SpZ pre mz post cz)) (tk : Takes X W) (cl : Cls X.K C) (hn : x ∉ ns) (hr : Room k X.A) (hm : mz xx = some z) (ho : XE X o ρ ρ (aV a0)) (O0 : Own ρ a0 (aObj C ns As0) w0) (ha : XL X (e :: es) ρ ρ1 As ls) (O : Own ρ1 a0 A0 w)
    (hpre : pre xx = A0 :: As) (hpost : post xx z = some B :: Po) (hP : Po.length = As.length) (n1 : (ls.map (·.1)).Nodup) (n2 : (ls.map (·.2.1)).Nodup) (hls : ∀ p ∈ ls, (w B)[p.2.1]? = some none) (hb : backs Po ls (w B) = ρx)
    (hst : starEach (e :: es) X.env = (false, eval e X.env) :: starEach es X.env := by rfl) (hpl : (backTo pos (starEach es X.env)).any (·.1) = false := by rfl)
    (ht : eval (.Call (.Attribute o x apos) (e :: es) [] pos) X.env = (do
      let ov ← eval o X.env
      standAt apos.atName
      let (f, first) ← holding [ov] (getMethod ov x pl)
      callWith pos f first (backTo pos (starEach (e :: es) X.env)) (backToKw pos (keywordEach [] X.env))) := by rfl) :
    XZ X (.Call (.Attribute o x apos) (e :: es) [] pos) ρ ρx W cz := fun E σ H st kk Q' => by
  subst hb
  obtain ⟨f, fd, ps, F, h1, h2⟩ := M.ex
  refine wE.of (pe_methS (E := WE W) peS cl h1 F hr h2 (passAt tk) paS hst hpl ht) (ho E [] [] σ H rfl st _ fun u H1 st1 => ?_)
  obtain ⟨G, Fa, Fv, fr, cs, e0, _⟩ := ST.one st1
  subst e0
  obtain ⟨F1, F2, e1, ⟨p, dx, vs, F', e2, e3, h3, hl, c1⟩, go⟩ := O0.get (T := []) (t := []) rfl cs
  refine ⟨p, dx, _, e2, h3, lookup_no hn, ha E [] [] σ H1 rfl (ST.pop st1) _ fun vs H2 hl hv st2 => ?_⟩
  rw [← e2]
  exact methZ_core hl st2 hv O hm hpre hpost hP n1 n2 hls kk
/-- C(e, ..) raises -/
theorem xz_make {k : Nat} (M : CalCZ X.prog X.w X.K X.mg X.base k C x (SpZ pre mz post cz)) (tk : Takes X W) (hr : Room (k + 1) X.A) (hm : mz xx = some z) (ha : XL X (e :: es) ρ ρ1 As ls)
    (hpre : pre xx = aObj C [] [] :: As) (hpost : post xx z = none :: Po) (hP : Po.length = As.length) (n1 : (ls.map (·.1)).Nodup) (n2 : (ls.map (·.2.1)).Nodup) (hls : ∀ p ∈ ls, ρ1[p.2.1]? = some none) (hb : backs Po ls ρ1 = ρx)
    (hg : Gl X x := by rfl) (hdb : (x == ("__debug__" : Str)) = false := by decide) (he : starEach (e :: es) X.env = (false, eval e X.env) :: starEach es X.env := by rfl) (hpl : (backTo pos (starEach es X.env)).any (·.1) = false := by rfl) :
    XZ X (.Call (.Name x p) (e :: es) [] pos) ρ ρx W cz := fun E σ H st kk Q' => by
  subst hb
  obtain ⟨f, fd, ps, F, h1, h2, h3⟩ := M.ex
  refine wE.of (pe_makeS (E := WE W) h2 F hr hg h1 h3 (passAt tk) paS hdb he hpl) (ha E [] [] σ H rfl st _ fun vs H1 hl hv st1 y dx ny ndx ne => ?_)
  obtain ⟨G, F, f, cs⟩ := st1
  have fm := Frm.made (o := .ins C dx []) (o' := .own y) f.gh ny ndx ne
  obtain ⟨f0, keep0⟩ := f.step (Fa := []) (Fr := F) (.refl _) fm
  have c0 := cs.mono (.refl _) f0.gh keep0
  obtain ⟨F1, F2, e1, c1, c2⟩ := c0.unappend (by simp [hl])
  subst e1
  have f0 : Frm E G (upd (upd H1 dx (.own y)) y (.ins C dx [])) ((y :: F1) ++ F2) := f0
  refine ⟨xx, z, G, y :: F1, hm, (f0.less (List.sublist_append_left _ _)).start, ?_, by rw [hpre]; simp [hl], fun H2 st2 => kk H2 ?_⟩
  · rw [hpre]
    exact ⟨.ref y, [y], F1, rfl, rfl, ⟨y, dx, [], [], rfl, rfl, upd_same, rfl, rfl⟩, c1⟩
  · obtain ⟨G2, F3, f3, c3⟩ := st2
    rw [hpost] at c3
    have c4 : Cs G2 H2 Po (vs.map some) F3 := c3
    obtain ⟨f4, keep⟩ := f0.step (Fa := y :: F1) (Fr := F2) (.refl _) f3
    have c5 := c4.append (c2.mono f3.gg f3.gh keep)
    obtain ⟨F6, ha2, hb2, c7⟩ := cs_backs (T := []) (t := []) rfl ls Po ρ1 _ (hP.trans hl.symm) n1 (fun p hp => ⟨(hv p hp).1, (hv p hp).2, hls p hp⟩) n2 c5 f4.nd
    exact ⟨G2, F6, f4.sub ha2 hb2, c7⟩
end

/-! ### try .. except -/
/-- what raises goes to the suite, what goes on to the rest -/
def tryM {ζ β ω : Type} (mz : Option ζ) (m : Option β) (ks : ζ → Option ω) (k : β → Option ω) : Option ω := match mz with
  | some z => ks z
  | none => m.bind k
section
variable {X : Cx} {ζ β γ : Type} {body suite rest : List Stmt} {b₀ : Stmt} {ρ : Cl} {ρz : ζ → Cl} {N : β → Cl} {R : γ → Cl} {mz : Option ζ} {ks : ζ → Option γ} {x n : Str} {c cz : Value} {np pos pos' : Pos}
theorem ST.putV {E : Ent} {σ : L2.St} {H : Hp} {v : V} (h : ST E ρ σ H) : ST E (some (aV v) :: ρ) (some v :: σ) H := by
  obtain ⟨G, F, f, cs⟩ := h
  exact ⟨G, F, f, v, [], F, rfl, rfl, ⟨rfl, rfl⟩, cs⟩
/-- try: body except c as n: (it returns) -/
theorem xg_tryAs (i : Nat) {m : Option β} {k : β → Option γ} (hs : X.stack = X.env :: X.outer) (hf : X.env.frame = some X.env.locals) (hN : X.N.Nodup) (hi : X.N[i]? = some n) (hln : X.env.kindOf n = some .local) (hc : Names X x c) (he : PySem.W.exmOne X.K cz c = some true) (hil : ∀ z, i < (ρz z).length)
    (hz : ∀ (W : WX) (pn : List (Addr × Obj)) (xe : Value → Shared → Prop), Takes (X.tr pn xe) W → PassesOwn (model X.prog X.w) X.A X.env xe → XG (X.tr pn xe) body ρ mz (oZ W cz ρz))
    (hb : ∀ (W : WX) (pn : List (Addr × Obj)) (xe : Value → Shared → Prop), Takes (X.tr pn xe) W → PassesOwn (model X.prog X.w) X.A X.env xe → XG (X.tr pn xe) body ρ m (oS N))
    (hsu : ∀ (z : ζ) (a : Addr) (oe : Obj) (pn : List (Addr × Obj)), Zc cz none oe → (∃ vs, oe.data = .fields vs) → XG (X.suite a ((a, oe) :: pn)) (b₀ :: suite) ((ρz z).set i (some (aV (.ref a)))) (ks z) (oR R))
    (h : ∀ s, XG X rest (N s) (k s) (oR R)) :
    XG X (.Try body [.ExceptHandler (some (.Name x np)) (some n) (b₀ :: suite) pos'] [] [] pos :: rest) ρ (tryM mz m ks k) (oR R) := fun o ho E σ H D st q => by
  refine wS.of (pss_cons (ps_try_as (i := i) (tb := fun W D σ H => ∀ pn xe, Takes (X.tr pn xe) W → PassesOwn (model X.prog X.w) X.A X.env xe → wS (X.tr pn xe) body D σ H) (ts := fun a cls d D σ H => ∀ oe pn, Zc cls d oe → (∃ vs, oe.data = .fields vs) → wS (X.suite a ((a, oe) :: pn)) (b₀ :: suite) D σ H)
    hs hf hN hi hln hc takes0 (fun W pn xe tk pw => ⟨fun pins s σ H D I h => h pn xe tk pw pins s I⟩) (fun a oe cls d pn h1 h2 => ⟨fun pins s σ H D I h => h oe pn h1 h2 pins s I⟩)) pssS) fun pn xe tk pw => ?_
  cases hm : mz with
  | some z =>
    rw [hm] at ho
    refine hz _ pn xe tk pw z hm E σ H _ st fun σ' H' st1 => ⟨true, he, fun _ a na oe pn2 h1 h2 => ?_, fun e => nomatch e⟩
    exact hsu z a oe pn2 h1 h2 o ho E _ H' _ (ST.assign (ST.putV st1) (hil z)) q
  | none =>
    rw [hm] at ho
    cases hm2 : m with
    | none => rw [hm2] at ho; cases ho
    | some s =>
      rw [hm2] at ho
      exact hb _ pn xe tk pw s hm2 E σ H _ st fun σ' H' st2 => h s o ho E σ' H' D st2 q
/-- .. the body returns where it does not raise -/
theorem xg_tryAsR (i : Nat) {m : Option γ} (hs : X.stack = X.env :: X.outer) (hf : X.env.frame = some X.env.locals) (hN : X.N.Nodup) (hi : X.N[i]? = some n) (hln : X.env.kindOf n = some .local) (hc : Names X x c) (he : PySem.W.exmOne X.K cz c = some true) (hil : ∀ z, i < (ρz z).length)
    (hz : ∀ (W : WX) (pn : List (Addr × Obj)) (xe : Value → Shared → Prop), Takes (X.tr pn xe) W → PassesOwn (model X.prog X.w) X.A X.env xe → XG (X.tr pn xe) body ρ mz (oZ W cz ρz))
    (hb : ∀ (W : WX) (pn : List (Addr × Obj)) (xe : Value → Shared → Prop), Takes (X.tr pn xe) W → PassesOwn (model X.prog X.w) X.A X.env xe → XG (X.tr pn xe) body ρ m (oR R))
    (hsu : ∀ (z : ζ) (a : Addr) (oe : Obj) (pn : List (Addr × Obj)), Zc cz none oe → (∃ vs, oe.data = .fields vs) → XG (X.suite a ((a, oe) :: pn)) (b₀ :: suite) ((ρz z).set i (some (aV (.ref a)))) (ks z) (oR R)) :
    XG X (.Try body [.ExceptHandler (some (.Name x np)) (some n) (b₀ :: suite) pos'] [] [] pos :: rest) ρ (tryM mz m ks some) (oR R) := fun o ho E σ H D st q => by
  refine wS.of (pss_cons (ps_try_as (i := i) (tb := fun W D σ H => ∀ pn xe, Takes (X.tr pn xe) W → PassesOwn (model X.prog X.w) X.A X.env xe → wS (X.tr pn xe) body D σ H) (ts := fun a cls d D σ H => ∀ oe pn, Zc cls d oe → (∃ vs, oe.data = .fields vs) → wS (X.suite a ((a, oe) :: pn)) (b₀ :: suite) D σ H)
    hs hf hN hi hln hc takes0 (fun W pn xe tk pw => ⟨fun pins s σ H D I h => h pn xe tk pw pins s I⟩) (fun a oe cls d pn h1 h2 => ⟨fun pins s σ H D I h => h oe pn h1 h2 pins s I⟩)) pssS) fun pn xe tk pw => ?_
  cases hm : mz with
  | some z =>
    rw [hm] at ho
    refine hz _ pn xe tk pw z hm E σ H _ st fun σ' H' st1 => ⟨true, he, fun _ a na oe pn2 h1 h2 => ?_, fun e => nomatch e⟩
    exact hsu z a oe pn2 h1 h2 o ho E _ H' _ (ST.assign (ST.putV st1) (hil z)) q
  | none =>
    rw [hm] at ho
    cases hm2 : m with
    | none => rw [hm2] at ho; cases ho
    | some s =>
      rw [hm2] at ho
      cases ho
      exact hb _ pn xe tk pw _ hm2 E σ H _ st q
/-- try: body except c: (it returns) -/
theorem xg_tryOnly {m : Option β} {k : β → Option γ} (hs : X.stack = X.env :: X.outer) (hf : X.env.frame = some X.env.locals) (hc : Names X x c) (he : PySem.W.exmOne X.K cz c = some true)
    (hz : ∀ (W : WX) (pn : List (Addr × Obj)) (xe : Value → Shared → Prop), Takes (X.tr pn xe) W → PassesOwn (model X.prog X.w) X.A X.env xe → XG (X.tr pn xe) body ρ mz (oZ W cz ρz))
    (hb : ∀ (W : WX) (pn : List (Addr × Obj)) (xe : Value → Shared → Prop), Takes (X.tr pn xe) W → PassesOwn (model X.prog X.w) X.A X.env xe → XG (X.tr pn xe) body ρ m (oS N))
    (hsu : ∀ (z : ζ) (a : Addr) (oe : Obj) (pn : List (Addr × Obj)), Zc cz none oe → (∃ vs, oe.data = .fields vs) → XG (X.suite a ((a, oe) :: pn)) (b₀ :: suite) (ρz z) (ks z) (oR R))
    (h : ∀ s, XG X rest (N s) (k s) (oR R)) :
    XG X (.Try body [.ExceptHandler (some (.Name x np)) none (b₀ :: suite) pos'] [] [] pos :: rest) ρ (tryM mz m ks k) (oR R) := fun o ho E σ H D st q => by
  refine wS.of (pss_cons (ps_try_only (tb := fun W D σ H => ∀ pn xe, Takes (X.tr pn xe) W → PassesOwn (model X.prog X.w) X.A X.env xe → wS (X.tr pn xe) body D σ H) (ts := fun a cls d D σ H => ∀ oe pn, Zc cls d oe → (∃ vs, oe.data = .fields vs) → wS (X.suite a ((a, oe) :: pn)) (b₀ :: suite) D σ H)
    hs hf hc takes0 (fun W pn xe tk pw => ⟨fun pins s σ H D I h => h pn xe tk pw pins s I⟩) (fun a oe cls d pn h1 h2 => ⟨fun pins s σ H D I h => h oe pn h1 h2 pins s I⟩)) pssS) fun pn xe tk pw => ?_
  cases hm : mz with
  | some z =>
    rw [hm] at ho
    refine hz _ pn xe tk pw z hm E σ H _ st fun σ' H' st1 => ⟨true, he, fun _ a na oe pn2 h1 h2 => ?_, fun e => nomatch e⟩
    exact hsu z a oe pn2 h1 h2 o ho E _ H' _ st1 q
  | none =>
    rw [hm] at ho
    cases hm2 : m with
    | none => rw [hm2] at ho; cases ho
    | some s =>
      rw [hm2] at ho
      exact hb _ pn xe tk pw s hm2 E σ H _ st fun σ' H' st2 => h s o ho E σ' H' D st2 q
end
/-! isinstance(n, D), n the caught error of the class C -/
section
variable {X : Cx} {ρ : Cl} {a : Addr} {oe : Obj} {pn : List (Addr × Obj)} {C D : Addr} {xn xd : Str} {k : Bool} {p p1 p2 pos : Pos}
theorem kit_one {K : PySem.W.Frag} {t C : Addr} {k : Bool} (hd : PySem.W.hasDictIn K C = true) (ht : PySem.W.typeIn K (.ref C) = some (.type "type")) (hs : PySem.W.subIn K (.ref t) (.ref C) = some k) (hr : PySem.W.subIn K (.ref C) (.ref C) = some true) : PySem.W.kitOne K (.ref t) (.ref C) = some k := by
  obtain ⟨cd, hc, _⟩ := PySem.W.any_some hd
  have e2 : ((PySem.W.clsIn K C).isSome && PySem.W.typeIn K (.ref C) == some (.type "type")) = true := by rw [hc, ht] <;> rfl
  unfold PySem.W.kitOne
  by_cases e : (Value.ref t == Value.ref C) = true
  · rw [if_pos e]
    have : t = C := Value.ref.inj (beq_iff_eq.mp e)
    subst this
    rw [hr] at hs
    exact hs
  · rw [if_neg e]
    show (if ((PySem.W.clsIn K C).isSome && PySem.W.typeIn K (.ref C) == some (.type "type")) = true then PySem.W.subIn K (.ref t) (.ref C) else none) = some k
    rw [if_pos e2]
    exact hs
theorem xe_isE (i : Nat) (Ec : ExcC X.K C) (hz : Zc (.ref C) none oe) (hfl : ∃ vs, oe.data = .fields vs) (T : ExK X.K X.mg xd D) (hk : PySem.W.kitOne X.K (.ref C) (.ref D) = some k) (hm : X.mg "isinstance" = none)
    (ha : XE (X.suite a ((a, oe) :: pn)) (.Name xn p1) ρ ρ (aV (.ref a))) (hg : Gl (X.suite a ((a, oe) :: pn)) xd := by rfl) (hgi : Gl (X.suite a ((a, oe) :: pn)) "isinstance" := by rfl) (hdb : (xd == ("__debug__" : Str)) = false := by decide)
    (hs : starEach [.Name xn p1, .Name xd p2] X.env = (false, eval (.Name xn p1) X.env) :: starEach [.Name xd p2] X.env := by rfl) (hs2 : starEach [.Name xd p2] X.env = [(false, eval (.Name xd p2) X.env)] := by rfl) (hpl : (backTo pos (starEach [.Name xd p2] X.env)).any (·.1) = false := by rfl) :
    XE (X.suite a ((a, oe) :: pn)) (.Call (.Name "isinstance" p) [.Name xn p1, .Name xd p2] [] pos) ρ ρ (aD X.K (.bool k)) :=
  xe_callB (X := X.suite a ((a, oe) :: pn)) (call_isE Ec hz hfl) (xa_cons ha (xa_cons (A := aV (.ref D)) (fun E T' t σ H l st Q kk => by
      obtain ⟨G, F, f, cs⟩ := st
      exact wE.of (pe_glob (v := .ref D) hg T.g rfl hdb) (kk (.ref D) H ⟨G, F, f, .ref D, [], F, rfl, rfl, ⟨rfl, rfl⟩, cs⟩)) xa_nil hs2) hs) (fun E T' t σ vs H Q l hl st kk => by
    obtain ⟨v, w, rfl⟩ := vs2 hl
    obtain ⟨G, F, f, c⟩ := st
    obtain ⟨v', F1, F2, e1, e2, ⟨q1, _⟩, w', F3, F4, e3, e4, ⟨q2, _⟩, c⟩ := c
    cases e1
    cases e3
    subst q1 q2 e2 e4
    exact ⟨.ref D, .ref D, k, rfl, fun u r => r, hk, kk _ H (ST.put (f.less ((List.sublist_append_right _ _).trans (List.sublist_append_right _ _))) c (.bl _))⟩) hm (by decide +kernel) hgi (by decide) (by decide) hs hpl
end
section
variable {X : Cx} {ρ ρ1 ρ2 : Cl} {a b : Expr} {pos : Pos} {k1 k2 : Bool}
theorem xk_isBl (ha : XE X a ρ ρ1 (aD X.K (.bool k1))) (hb : XE X b ρ1 ρ2 (aD X.K (.bool k2))) : XKm X (.Compare a [.Is] [b] pos) ρ ρ2 (decide (k1 = k2)) :=
  ⟨_, pe_cmpR op_is_bl peS peS (nomark _), pt_cmpR op_is_bl peS peS (nomark _), fun E T t σ H l st Q kk => ha E T t σ H l st _ fun x H1 st1 => hb E (_ :: T) (_ :: t) σ H1 (by simp [l]) st1 _ fun y H2 st2 => by
    obtain ⟨G, F, f, cs, q1, q2⟩ := ST.top2 st2
    cases q1
    cases q2
    exact ⟨k1, k2, rfl, rfl, kk _ H2 (ST.put f cs (.bl _))⟩⟩
theorem xk_notBl (ha : XE X a ρ ρ1 (aD X.K (.bool k1))) (hb : XE X b ρ1 ρ2 (aD X.K (.bool k2))) : XKm X (.Compare a [.IsNot] [b] pos) ρ ρ2 (!decide (k1 = k2)) :=
  ⟨_, pe_cmpR op_isnot_bl peS peS (nomark _), pt_cmpR op_isnot_bl peS peS (nomark _), fun E T t σ H l st Q kk => ha E T t σ H l st _ fun x H1 st1 => hb E (_ :: T) (_ :: t) σ H1 (by simp [l]) st1 _ fun y H2 st2 => by
    obtain ⟨G, F, f, cs, q1, q2⟩ := ST.top2 st2
    cases q1
    cases q2
    exact ⟨k1, k2, rfl, rfl, kk _ H2 (ST.put f cs (.bl _))⟩⟩
end
end Mr

set_option Elab.async false
set_option linter.all false
set_option maxRecDepth 100000
/-! lists of owned lists: an item's value is named, read -/
namespace Mr
open PySem PySem.Spec PyProof.Rows L2
section
variable {X : Cx} {ω : Type} {sts : List Stmt} {m : Option ω} {Φ : ω → Ent → Ends → Prop} {ρ ρ1 ρ2 : Cl} {A B : OA} {a b : Expr} {pos : Pos} {As : List OA} {u v0 a0 : V}
theorem xg_pini (i k : Nat) (h : ρ[i]? = some (some (pin a0 (aL As)))) (hk : As[k]? = some A) (kk : ∀ v, XG X sts (ρ.set i (some (pin a0 (aL (As.set k (pin v A)))))) m Φ) : XG X sts ρ m Φ := fun r hr E σ H D st q => by
  obtain ⟨G, F, f, c⟩ := st
  obtain ⟨F1, F2, e1, ⟨p, vs, F', e2, e3, h1, c1⟩, go⟩ := (Own.slot i h).get (T := []) (t := []) rfl c
  subst e2 e3
  obtain ⟨v, Fa, Fb, ev, e4, hq, c2⟩ := c1.getP hk
  obtain ⟨F3, a3, c4⟩ := c2.join (A := pin v A) (v := v) (F1 := Fa) (by rw [List.length_map]; exact lt_of_get hk) ⟨rfl, hq⟩
  have e6 : (vs.map some).set k (some v) = vs.map some := set_get (by rw [List.getElem?_map, ev]; rfl)
  rw [e6] at c4
  have c4 : Cs G H ((As.set k (pin v A)).map some) (vs.map some) F3 := by simpa [List.map_set] using c4
  obtain ⟨F5, a5, c5⟩ := go (.refl _) f.gh (fun b _ o q => q) (B := aL (As.set k (pin v A))) (F1' := p :: F3) ⟨p, vs, F3, rfl, rfl, h1, c4⟩
  refine kk v r hr E σ H D ⟨G, F5, f.perm ?_, c5⟩ q
  exact e1.trans (List.Perm.trans (List.Perm.append_right F2 (List.Perm.cons p (e4.trans a3.symm))) a5.symm)
/-- w[n], the item is owned -/
theorem xe_ixV (i : Nat) {j : Nat} {n : Int} (ha : XE X a ρ ρ1 (aV v0)) (hb : XE X b ρ1 ρ2 (aD X.K (.int n))) (hp : ρ2[i]? = some (some (pin v0 (aL As)))) (hn : ixN As.length n = some j) (h : As[j]? = some (pin u A)) (hs : PlainIx b := by exact fun _ _ => rfl) :
    XE X (.Subscript a b pos) ρ ρ2 (aV u) := fun E T t σ H l st Q k =>
  wE.of (pe_ix ix_list peS peS hs) (ha E T t σ H l st _ fun x H1 st1 => hb E (_ :: T) (_ :: t) σ H1 (by simp [l]) st1 _ fun y H2 st2 => by
    obtain ⟨G, F, Fv, Fw, f, cs, ⟨q1, _⟩, q2, _⟩ := ST.two st2
    cases q2
    obtain ⟨v, F1, F2, e1, e2, ⟨e3, p, vs, F', e4, e5, h1, c1⟩, c2⟩ := cs.slot l hp
    subst q1 e3 e4
    obtain ⟨w, Fa, Fb, hw, _, ⟨e7, _⟩, _⟩ := c1.getP h
    subst e7
    have hl : vs.length = As.length := by simpa using c1.len.symm
    exact ⟨p, vs, n, w, rfl, rfl, .inl (.inl h1), by unfold atI; rw [hl, hn]; exact hw, k w H2 ⟨G, F, f, w, [], F, rfl, rfl, ⟨rfl, rfl⟩, cs⟩⟩)
end
theorem DqAll.reverse {K : PySem.W.Frag} {G : Hp} : ∀ {ds : List PyData} {vs : List V}, DqAll K G vs ds → DqAll K G vs.reverse ds.reverse
  | _, _, .nil => .nil
  | _, _, .cons h t => by
    rw [List.reverse_cons, List.reverse_cons]
    exact t.reverse.append (.cons h .nil)
section
variable {X : Cx} {ρ ρ1 : Cl} {A : OA} {a : Expr} {α : Type} [Cd α]
/-- xs[::-1] -/
theorem xc_rev {xs : List α} {k : Nat} {p1 p2 p3 pos : Pos} (ha : XE X a ρ ρ1 A) (r : Rls X.K ρ1 A (xs.map Cd.d)) : XE X (.Subscript a (.Slice none none (some (.UnaryOp .USub (.Constant (.int 1) k p1) p2)) p3) pos) ρ ρ1 (aLD X.K (xs.reverse.map Cd.d)) := fun E T t σ H l st Q kk =>
  wE.of (pe_revL peS) (ha E T t σ H l st _ fun x H1 st1 => by
    obtain ⟨G, F, Fv, f, cs, q⟩ := ST.one st1
    obtain ⟨p, ys, e1, e2, e3⟩ := r l cs f.gh q
    refine ⟨p, ys, e1, e2, fun p' hp => kk _ _ ?_⟩
    have := ST.newL f cs hp e3.reverse
    rw [← List.map_reverse] at this
    exact this)
end
section
variable {X : Cx} {ρ ρ1 : Cl} {e : Expr} {n : Int}
theorem xo_some (h : XE X e ρ ρ1 (aD X.K (.int n))) : XO X (some e) ρ ρ1 (some n) := h
theorem xo_none : XO X none ρ ρ none := (rfl : ρ = ρ)
end
end Mr

set_option Elab.async false
set_option linter.all false
set_option maxRecDepth 100000
/-! zip, targets of a list, tuples of five and six -/
namespace Mr
open PySem PySem.Spec PyProof.Rows L2
structure T5 (α β γ δ ε : Type) where
  a : α
  b : β
  c : γ
  d : δ
  e : ε
  deriving DecidableEq
structure T6 (α β γ δ ε ζ : Type) where
  a : α
  b : β
  c : γ
  d : δ
  e : ε
  f : ζ
  deriving DecidableEq
section
variable {α β γ δ ε ζ : Type} [Cd α] [Cd β] [Cd γ] [Cd δ] [Cd ε] [Cd ζ]
instance : Cd (T5 α β γ δ ε) := ⟨fun p => .tuple [Cd.d p.a, Cd.d p.b, Cd.d p.c, Cd.d p.d, Cd.d p.e], max (Cd.dep α) (max (Cd.dep β) (max (Cd.dep γ) (max (Cd.dep δ) (Cd.dep ε)))) + 1, fun p => by simp [PyData.canLay0, PyData.canLayAll0, Cd.can], fun p => by
  have h1 := Cd.hdep p.a
  have h2 := Cd.hdep p.b
  have h3 := Cd.hdep p.c
  have h4 := Cd.hdep p.d
  have h5 := Cd.hdep p.e
  simp only [PyData.depth, PyData.depthAll]
  omega⟩
instance : Cd (T6 α β γ δ ε ζ) := ⟨fun p => .tuple [Cd.d p.a, Cd.d p.b, Cd.d p.c, Cd.d p.d, Cd.d p.e, Cd.d p.f], max (Cd.dep α) (max (Cd.dep β) (max (Cd.dep γ) (max (Cd.dep δ) (max (Cd.dep ε) (Cd.dep ζ))))) + 1, fun p => by simp [PyData.canLay0, PyData.canLayAll0, Cd.can], fun p => by
  have h1 := Cd.hdep p.a
  have h2 := Cd.hdep p.b
  have h3 := Cd.hdep p.c
  have h4 := Cd.hdep p.d
  have h5 := Cd.hdep p.e
  have h6 := Cd.hdep p.f
  simp only [PyData.depth, PyData.depthAll]
  omega⟩
instance : Cn (T5 α β γ δ ε) := ⟨fun _ => rfl⟩
instance : Cn (T6 α β γ δ ε ζ) := ⟨fun _ => rfl⟩
variable [DecidableEq α] [DecidableEq β] [DecidableEq γ] [DecidableEq δ] [DecidableEq ε] [DecidableEq ζ] [Ce α] [Ce β] [Ce γ] [Ce δ] [Ce ε] [Ce ζ]
instance : Ce (T5 α β γ δ ε) := ⟨fun x y => by
  show PyData.eqv (.tuple _) (.tuple _) = _
  obtain ⟨x1, x2, x3, x4, x5⟩ := x
  obtain ⟨y1, y2, y3, y4, y5⟩ := y
  simp [PyData.eqv, PyData.eqvAll, Ce.eqv, T5.mk.injEq]⟩
instance : Ce (T6 α β γ δ ε ζ) := ⟨fun x y => by
  show PyData.eqv (.tuple _) (.tuple _) = _
  obtain ⟨x1, x2, x3, x4, x5, x6⟩ := x
  obtain ⟨y1, y2, y3, y4, y5, y6⟩ := y
  simp [PyData.eqv, PyData.eqvAll, Ce.eqv, T6.mk.injEq]⟩
end
/-! a, b, .. = a list -/
theorem ST.unlst {E : Ent} {K : PySem.W.Frag} {L : Cl} {C : L2.St} {H : Hp} {v : V} {ds : List PyData} (st : ST E (some (aD K (.list ds)) :: L) (some v :: C) H) : ∃ a vs, v = .ref a ∧ SqL K H a vs ∧ vs.length = ds.length ∧ ST E ((ds.map (aD K)).map some ++ L) (vs.map some ++ C) H := by
  obtain ⟨G, F, f, c, q⟩ := ST.top st
  cases q with
  | lst h1 h2 => exact ⟨_, _, rfl, .inl (.inl (f.gh _ _ h1)), h2.len, G, F, f, by simpa using (csD' h2).append c⟩
section
variable {X : Cx} {ρ ρ1 ρ2 : Cl} {a b : Expr} {pos p tpos : Pos} {ds : List PyData} {α β : Type} [Cd α] [Cd β]
theorem xp_lst {ts : List Expr} {k : Nat} (hc : X.calm = true) (h : XPs X ts ds ρ ρ1) (hn : (assignEach ts X.env).length = ds.length := by rfl) (hst : (assignEach ts X.env).findIdx? (·.1) = none := by rfl) : XP X (.Tuple ts k pos) (aD X.K (.list ds)) ρ ρ1 := fun E T t σ H v l st Q kk => by
  obtain ⟨a, vs, e1, h1, h2, st2⟩ := st.unlst
  exact wG.of (pg_lst hc pgsS hn hst) ⟨a, vs, e1, h1, h2, h E T t σ H vs l h2 st2 Q kk⟩
def toL3 {β : Type} : List β → Option (T3 β β β)
  | [a, b, c] => some ⟨a, b, c⟩
  | _ => none
theorem xe_toL3 {xs : List α} {t : T3 α α α} (h : XE X a ρ ρ1 (aD X.K (Cd.d xs))) (e : toL3 xs = some t) : XE X a ρ ρ1 (aD X.K (.list [Cd.d t.a, Cd.d t.b, Cd.d t.c])) := by
  match xs, e with
  | [_, _, _], e => cases e; exact h
theorem xe_toL4 {xs : List α} {t : T4 α α α α} (h : XE X a ρ ρ1 (aD X.K (Cd.d xs))) (e : toT4 xs = some t) : XE X a ρ ρ1 (aD X.K (.list [Cd.d t.a, Cd.d t.b, Cd.d t.c, Cd.d t.d])) := by
  match xs, e with
  | [_, _, _, _], e => cases e; exact h
/-! zip -/
theorem itz_gives {E : Ent} {u w : Addr} {vs us : List V} {xs : List α} {ys : List β} (h1 : SqL X.K E.G u vs) (q1 : DqAll X.K E.G vs (xs.map Cd.d)) (h2 : SqL X.K E.G w us) (q2 : DqAll X.K E.G us (ys.map Cd.d)) : Gives (Itz X.K u w) E okAll (xs.zip ys) (fun z => aD X.K (Cd.d z)) where
  go := fun i hi T t L C H l _ st => by
    obtain ⟨G, F, f, c⟩ := st
    rw [List.length_zip] at hi
    have e1 := q1.len
    have e2 := q2.len
    rw [List.length_map] at e1 e2
    have l1 : i < vs.length := by omega
    have l2 : i < us.length := by omega
    exact ⟨vs, us, vs[i], us[i], f.gh.sl (f.gg.sl h1), f.gh.sl (f.gg.sl h2), List.getElem?_eq_getElem l1, List.getElem?_eq_getElem l2⟩
  stop := fun T t L C H l _ st => by
    obtain ⟨G, F, f, c⟩ := st
    have e1 := q1.len
    have e2 := q2.len
    rw [List.length_map] at e1 e2
    refine ⟨vs, us, f.gh.sl (f.gg.sl h1), f.gh.sl (f.gg.sl h2), ?_⟩
    rw [List.length_zip]
    omega
  yld := fun i z v H H' hz T t L C l _ st y => by
    obtain ⟨G, F, f, c⟩ := st
    obtain ⟨z1, z2⟩ := List.getElem?_zip_eq_some.mp hz
    obtain ⟨N, x, y', e1, e2, e3, k1, k2⟩ := y
    have g1 := k1 vs (f.gh.sl (f.gg.sl h1))
    have g2 := k2 us (f.gh.sl (f.gg.sl h2))
    obtain ⟨a1, b1, d1⟩ := q1.get (i := i) (d := Cd.d z.1) (by rw [List.getElem?_map, z1]; rfl)
    obtain ⟨a2, b2, d2⟩ := q2.get (i := i) (d := Cd.d z.2) (by rw [List.getElem?_map, z2]; rfl)
    rw [g1] at b1
    rw [g2] at b2
    cases b1
    cases b2
    subst e1 e3
    exact ST.newT f c e2 (.cons (Dq.mono f.gg _ _ d1) (.cons (Dq.mono f.gg _ _ d2) .nil))
theorem xi_zip {elts : List Expr} {kk : Nat} {xs : List α} {ys : List β} (hg : Gl X "zip") (hm : X.mg "zip" = none) (ha : XE X a ρ ρ1 (aD X.K (Cd.d xs))) (hb : XE X b ρ1 ρ2 (aD X.K (Cd.d ys)))
    (hs : starEach [a, b] X.env = (false, eval a X.env) :: starEach [b] X.env := by rfl) (hs2 : starEach [b] X.env = [(false, eval b X.env)] := by rfl) (hpl : (backTo pos (starEach [b] X.env)).any (·.1) = false := by rfl) :
    XI X (.Tuple elts kk tpos) (.Call (.Name "zip" p) [a, b] [] pos) ρ ρ2 okAll (xs.zip ys) (fun z => aD X.K (Cd.d z)) := fun E T t σ H l st R k =>
  wI.of (pi_zip hg hm (pa_cons peS (pa_cons peS pa_nil hs2) hs) hs hpl) (ha E T t σ H l st _ fun v H1 st1 => hb E (_ :: T) (_ :: t) σ H1 (by simp [l]) st1 _ fun w H2 st2 => by
    obtain ⟨G, F, f, cs, q1, q2⟩ := ST.top2 st2
    cases q1 with
    | lst a1 a2 =>
      cases q2 with
      | lst b1 b2 => exact ⟨_, _, _, _, rfl, .inl (.inl (f.gh _ _ a1)), .inl (.inl (f.gh _ _ b1)), k _ ⟨G, H2, F⟩ _ (Later.of f) ⟨G, F, f.start, cs⟩ (itz_gives (.inl (.inl a1)) a2 (.inl (.inl b1)) b2)⟩)
end
end Mr

set_option Elab.async false
set_option linter.all false
set_option maxRecDepth 100000
/-! tuples of owned things: made, unpacked into names, closed again -/
namespace Mr
open PySem PySem.Spec PyProof.Rows L2
/-- a tuple and what its items own -/
def aT (As : List OA) : OA := ⟨fun G H v F => ∃ p vs F', v = .ref p ∧ F = p :: F' ∧ H p = some (.tup vs) ∧ Cs G H (As.map some) (vs.map some) F', fun h e e' k => by
  obtain ⟨p, vs, F', e1, e2, h1, c⟩ := h
  subst e2
  exact ⟨p, vs, F', e1, rfl, k p (by simp) _ h1, c.mono e e' fun b hb => k b (by simp [hb])⟩⟩
/-- nothing is said of it -/
def aN : OA := ⟨fun _ _ _ F => F = [], fun h _ _ _ => h⟩
theorem imp_tup {As Bs : List OA} (h : ImpL As Bs) : Imp (aT As) (aT Bs) := fun q => by
  obtain ⟨p, vs, F', e2, e3, h1, c1⟩ := q
  exact ⟨p, vs, F', e2, e3, h1, h.cs c1⟩
/-- an item of a tuple -/
theorem Own.tit {ρ : Cl} {a0 v0 : V} {A : OA} {As : List OA} {w : OA → Cl} (O : Own ρ a0 (aT As) w) (k : Nat) (hk : As[k]? = some (pin v0 A)) : Own ρ v0 A (fun B => w (aT (As.set k (pin v0 B)))) := ⟨fun {G H T t σ F} l c => by
  obtain ⟨F1, F2, e1, ⟨p, vs, F', e2, e3, h1, c1⟩, go⟩ := O.get l c
  subst e2 e3
  obtain ⟨v, Fa, Fb, ev, e4, ⟨e5, q⟩, c2⟩ := c1.getP hk
  subst e5
  have pm : (p :: F' ++ F2).Perm (Fa ++ (p :: Fb ++ F2)) := by
    have q1 : (p :: F' ++ F2).Perm (p :: (Fa ++ Fb) ++ F2) := List.Perm.append_right F2 (List.Perm.cons p e4)
    refine q1.trans ?_
    show (p :: (Fa ++ Fb ++ F2)).Perm (Fa ++ (p :: (Fb ++ F2)))
    rw [List.append_assoc]
    exact List.perm_middle.symm
  refine ⟨Fa, p :: Fb ++ F2, e1.trans pm, q, fun {G' H' Fa' B} e e' kp pB => ?_⟩
  have c3 := c2.mono e e' fun b hb => kp b (by simp [hb])
  obtain ⟨F3, a3, c4⟩ := c3.join (A := pin v B) (v := v) (F1 := Fa') (by rw [List.length_map]; exact lt_of_get hk) ⟨rfl, pB⟩
  have e6 : (vs.map some).set k (some v) = vs.map some := set_get (by rw [List.getElem?_map, ev]; rfl)
  rw [e6] at c4
  have c4 : Cs G' H' ((As.set k (pin v B)).map some) (vs.map some) F3 := by simpa [List.map_set] using c4
  obtain ⟨F5, a5, c5⟩ := go e e' (fun b hb => kp b (by simp [hb])) (B := aT (As.set k (pin v B))) (F1' := p :: F3) ⟨p, vs, F3, rfl, rfl, kp p (by simp) _ h1, c4⟩
  refine ⟨F5, a5.trans ?_, c5⟩
  have q1 : (p :: F3 ++ F2).Perm (p :: (Fa' ++ Fb) ++ F2) := List.Perm.append_right F2 (List.Perm.cons p a3)
  refine q1.trans ?_
  show (p :: (Fa' ++ Fb ++ F2)).Perm (Fa' ++ (p :: (Fb ++ F2)))
  rw [List.append_assoc]
  exact List.perm_middle.symm⟩
/-- the same state, told otherwise -/
def Mv (ρ ρ' : Cl) : Prop := ∀ {G H : Hp} {T : Cl} {t σ : L2.St} {F : List Addr}, T.length = t.length → Ex G H → Cs G H (T ++ ρ) (t ++ σ) F → ∃ F', F'.Perm F ∧ Cs G H (T ++ ρ') (t ++ σ) F'
section
variable {X : Cx} {ω : Type} {sts : List Stmt} {m : Option ω} {Φ : ω → Ent → Ends → Prop} {ρ ρ1 ρ2 : Cl} {A B : OA} {a b e : Expr} {es : List Expr} {pos : Pos} {As Bs : List OA} {u v v0 a0 : V}
theorem xg_mv (h : Mv ρ ρ1) (kk : XG X sts ρ1 m Φ) : XG X sts ρ m Φ := fun r hr E σ H D st q => by
  obtain ⟨G, F, f, c⟩ := st
  obtain ⟨F', p, c'⟩ := h (T := []) (t := []) rfl f.gh c
  exact kk r hr E σ H D ⟨G, F', f.perm p.symm, c'⟩ q
theorem xe_mv (he : XE X e ρ ρ1 A) (h : Mv ρ1 ρ2) : XE X e ρ ρ2 A := fun E T t σ H l st Q k => he E T t σ H l st Q fun w H' st1 => k w H' (by
  obtain ⟨G, F, f, c⟩ := st1
  obtain ⟨F', p, c'⟩ := h (T := some A :: T) (t := some w :: t) (by simp [l]) f.gh c
  exact ⟨G, F', f.perm p.symm, c'⟩)
theorem xe_mvE {ρ3 : Cl} (he : XE X e ρ ρ1 A) (h : Mv ρ1 ρ2) (hs : ρ2 = ρ3 := by rfl) : XE X e ρ ρ3 A := hs ▸ xe_mv he h
theorem mv_take (i j k : Nat) (h1 : ρ[i]? = some (some (pin v0 (aT As)))) (hk : As[k]? = some (pin v A)) (hj : (ρ.set i (some (pin v0 (aT (As.set k (pin v aN))))))[j]? = some (some (aV v))) : Mv ρ ((ρ.set i (some (pin v0 (aT (As.set k (pin v aN)))))).set j (some (pin v A))) := fun {G H T t σ F} l ex c => by
  obtain ⟨F1, F2, p1, q, go⟩ := ((Own.slot i h1).tit k hk).get l c
  obtain ⟨F3, p3, c3⟩ := go (B := aN) (F1' := []) (.refl _) ex (fun _ _ _ z => z) rfl
  obtain ⟨w, Fa, Fb, ew, pw, ⟨e1, e2⟩, c4⟩ := Cs.slot l c3 hj
  subst e1 e2
  obtain ⟨F5, p5, c5⟩ := Cs.back (A := pin w A) l c4 (lt_of_get hj) ew ⟨rfl, q⟩
  refine ⟨F5, p5.trans (List.Perm.trans ?_ p1.symm), c5⟩
  exact List.Perm.append_left F1 ((show Fb.Perm F3 from pw.symm).trans p3)
theorem mv_give (i j k : Nat) (hj : ρ[j]? = some (some (pin v A))) (h1 : (ρ.set j none)[i]? = some (some (pin v0 (aT As)))) (hk : As[k]? = some (pin v aN)) : Mv ρ ((ρ.set j none).set i (some (pin v0 (aT (As.set k (pin v A)))))) := fun {G H T t σ F} l ex c => by
  obtain ⟨w, Fa, Fb, ew, pw, ⟨e1, q⟩, c2⟩ := Cs.slot l c hj
  subst e1
  obtain ⟨F1, F2, p1, q1, go⟩ := ((Own.slot i h1).tit k hk).get l c2
  have e0 : F1 = [] := q1
  subst e0
  obtain ⟨F3, p3, c3⟩ := go (B := A) (F1' := Fa) (.refl _) ex (fun _ _ _ z => z) q
  exact ⟨F3, p3.trans ((List.Perm.append_left Fa (show F2.Perm Fb from p1.symm)).trans pw.symm), c3⟩
theorem xg_pint (i k : Nat) (h : ρ[i]? = some (some (pin a0 (aT As)))) (hk : As[k]? = some A) (kk : ∀ v, XG X sts (ρ.set i (some (pin a0 (aT (As.set k (pin v A)))))) m Φ) : XG X sts ρ m Φ := fun r hr E σ H D st q => by
  obtain ⟨G, F, f, c⟩ := st
  obtain ⟨F1, F2, e1, ⟨p, vs, F', e2, e3, h1, c1⟩, go⟩ := (Own.slot i h).get (T := []) (t := []) rfl c
  subst e2 e3
  obtain ⟨v, Fa, Fb, ev, e4, hq, c2⟩ := c1.getP hk
  obtain ⟨F3, a3, c4⟩ := c2.join (A := pin v A) (v := v) (F1 := Fa) (by rw [List.length_map]; exact lt_of_get hk) ⟨rfl, hq⟩
  have e6 : (vs.map some).set k (some v) = vs.map some := set_get (by rw [List.getElem?_map, ev]; rfl)
  rw [e6] at c4
  have c4 : Cs G H ((As.set k (pin v A)).map some) (vs.map some) F3 := by simpa [List.map_set] using c4
  obtain ⟨F5, a5, c5⟩ := go (.refl _) f.gh (fun b _ o q => q) (B := aT (As.set k (pin v A))) (F1' := p :: F3) ⟨p, vs, F3, rfl, rfl, h1, c4⟩
  refine kk v r hr E σ H D ⟨G, F5, f.perm ?_, c5⟩ q
  exact e1.trans (List.Perm.trans (List.Perm.append_right F2 (List.Perm.cons p (e4.trans a3.symm))) a5.symm)
/-- (e, ..) of owned things -/
theorem xe_tupO {n : Nat} (h : XA X es ρ ρ1 As) (hz : As.length ≤ 1000) : XE X (.Tuple es n pos) ρ ρ1 (aT As) := fun E T t σ H l st Q k =>
  wE.of (pe_tup paS) (h E T t σ H l st _ fun vs H1 hl st1 => by
    refine ⟨by rw [hl]; exact Nat.le_trans hz (by decide), fun p hp => k _ _ ?_⟩
    obtain ⟨G, F, f, cs⟩ := st1
    obtain ⟨F1, F2, e1, c1, c2⟩ := cs.unappend (by simp [hl])
    subst e1
    obtain ⟨f1, keep⟩ := f.step (Fa := []) (Fr := F1 ++ F2) (by simp) (Frm.alloc (o := .tup vs) f.gh hp)
    have c3 := c1.mono (.refl _) f1.gh fun b hb => keep b (List.mem_append_left _ hb)
    have c4 := c2.mono (.refl _) f1.gh fun b hb => keep b (List.mem_append_right _ hb)
    exact ⟨G, _, f1, .ref p, p :: F1, F2, rfl, by simp, ⟨p, vs, F1, rfl, rfl, upd_same, c3⟩, c4⟩)
/-- several targets of things -/
def XPA (X : Cx) (ts : List Expr) (Bs : List OA) (ρ ρ' : Cl) : Prop := ∀ (E : Ent) (T : Cl) (t σ : L2.St) (H : Hp) (vs : List V), T.length = t.length → vs.length = Bs.length → ST E (Bs.map some ++ (T ++ ρ)) (vs.map some ++ (t ++ σ)) H → ∀ Q : L2.St → Hp → Prop, (∀ σ' H', ST E (T ++ ρ') (t ++ σ') H' → Q σ' H') → wGs X ts vs σ H Q
theorem xpa_nil : XPA X [] [] ρ ρ := fun E T t σ H vs l hl st Q k => by
  cases vs with
  | nil => exact wGs.of pgs_nil ⟨rfl, k σ H st⟩
  | cons _ _ => simp at hl
theorem xpa_cons {tg : Expr} {ts : List Expr} (h : XP X tg B ρ ρ1) (hr : XPA X ts Bs ρ1 ρ2) (hs : (assignEach (tg :: ts) X.env).map (·.2) = assign tg X.env :: (assignEach ts X.env).map (·.2) := by rfl) : XPA X (tg :: ts) (B :: Bs) ρ ρ2 := fun E T t σ H vs l hl st Q k => by
  cases vs with
  | nil => simp at hl
  | cons w vs =>
    have hl' : vs.length = Bs.length := by simpa using hl
    refine wGs.of (pgs_cons pgS pgsS hs) ⟨w, vs, rfl, h E (Bs.map some ++ T) (vs.map some ++ t) σ H w (by simp [l, hl']) (by simpa using st) _ fun σ' H' st' => ?_⟩
    exact hr E T t σ' H' vs l hl' (by simpa using st') Q k
theorem xl_lendE {As' : List OA} {ls : List (Nat × Nat × V)} (j i : Nat) {v0 : V} (h : XL X es ρ ρ1 As ls) (hj : As[j]? = some (aV v0)) (hi : ρ1[i]? = some (some (pin v0 A))) (h2 : As.set j A = As' := by rfl) : XL X es ρ (ρ1.set i none) As' ((j, i, v0) :: ls) := h2 ▸ xl_lend j i h hj hi
/-- what unpacking hands to the names -/
inductive Cps (K : PySem.W.Frag) : List OA → List OA → Prop
  | nil : Cps K [] []
  | own {v : V} {A : OA} {As Bs : List OA} : Cps K As Bs → Cps K (pin v A :: As) (aV v :: Bs)
  | dat {d : PyData} {As Bs : List OA} : Cps K As Bs → Cps K (aD K d :: As) (aD K d :: Bs)
theorem Cps.cs {K : PySem.W.Frag} {G H : Hp} : ∀ {As Bs : List OA} {vs : List V} {F : List Addr}, Cps K As Bs → Cs G H (As.map some) (vs.map some) F → vs.length = Bs.length ∧ Cs G H (Bs.map some) (vs.map some) []
  | _, _, [], _, .nil, _ => ⟨rfl, rfl⟩
  | _, _, _ :: _, _, .nil, c => c.elim
  | _, _, [], _, .own _, c => c.elim
  | _, _, [], _, .dat _, c => c.elim
  | _, _, w :: vs, _, .own h, c => by
    obtain ⟨x, F1, F2, e1, e2, ⟨e3, q⟩, c⟩ := c
    cases e1
    subst e3
    obtain ⟨h1, h2⟩ := h.cs c
    exact ⟨by simp [h1], w, [], [], rfl, rfl, ⟨rfl, rfl⟩, h2⟩
  | _, _, w :: vs, _, .dat h, c => by
    obtain ⟨x, F1, F2, e1, e2, ⟨q, e3⟩, c⟩ := c
    cases e1
    obtain ⟨h1, h2⟩ := h.cs c
    exact ⟨by simp [h1], w, [], [], rfl, rfl, ⟨q, rfl⟩, h2⟩
theorem xp_bun (i : Nat) {ts : List Expr} {k : Nat} (hc : X.calm = true) (h1 : ρ[i]? = some (some (pin v0 (aT As)))) (cp : Cps X.K As Bs) (h : XPA X ts Bs ρ ρ1) (hn : (assignEach ts X.env).length = Bs.length := by rfl) (hst : (assignEach ts X.env).findIdx? (·.1) = none := by rfl) : XP X (.Tuple ts k pos) (aV v0) ρ ρ1 := fun E T t σ H w l st Q kk => by
  obtain ⟨G, F, Fv, f, cs, e0, _⟩ := ST.one st
  subst e0
  obtain ⟨y, F1, F2, ey, py, ⟨e3, p, vs, F', e4, e5, hp, c1⟩, c2⟩ := cs.slot l h1
  subst e3 e4
  obtain ⟨hl, c3⟩ := cp.cs c1
  have st2 : ST E (Bs.map some ++ (T ++ ρ)) (vs.map some ++ (t ++ σ)) H := ⟨G, F, f, by simpa using c3.append cs⟩
  exact wG.of (pg_tup hc pgsS hn hst) ⟨p, vs, rfl, SqT.of hp, hl, h E T t σ H vs l hl st2 Q kk⟩
/-- w[n], w a tuple of owned things -/
theorem xe_ixU (i : Nat) {j : Nat} {n : Int} (ha : XE X a ρ ρ1 (aV v0)) (hb : XE X b ρ1 ρ2 (aD X.K (.int n))) (hp : ρ2[i]? = some (some (pin v0 (aT As)))) (hn : ixN As.length n = some j) (h : As[j]? = some (pin u A)) (hs : PlainIx b := by exact fun _ _ => rfl) :
    XE X (.Subscript a b pos) ρ ρ2 (aV u) := fun E T t σ H l st Q k =>
  wE.of (pe_ix ix_tup peS peS hs) (ha E T t σ H l st _ fun x H1 st1 => hb E (_ :: T) (_ :: t) σ H1 (by simp [l]) st1 _ fun y H2 st2 => by
    obtain ⟨G, F, Fv, Fw, f, cs, ⟨q1, _⟩, q2, _⟩ := ST.two st2
    cases q2
    obtain ⟨v, F1, F2, e1, e2, ⟨e3, p, vs, F', e4, e5, h1, c1⟩, c2⟩ := cs.slot l hp
    subst q1 e3 e4
    obtain ⟨w, Fa, Fb, hw, _, ⟨e7, _⟩, _⟩ := c1.getP h
    subst e7
    have hl : vs.length = As.length := by simpa using c1.len.symm
    exact ⟨p, vs, n, w, rfl, rfl, SqT.of h1, by unfold atI; rw [hl, hn]; exact hw, k w H2 ⟨G, F, f, w, [], F, rfl, rfl, ⟨rfl, rfl⟩, cs⟩⟩)
end
section
variable {X : Cx} {ρ : Cl} {A : OA} {pos : Pos}
/-- a name that hands over what it owns -/
theorem xe_nmMove (i : Nat) {x : Str} {v0 : V} (h : ρ[i]? = some (some (pin v0 A))) (hN : X.N[i]? = some x := by rfl) (hv : Vis X.env.scope x := by first | exact Or.inl rfl | exact Or.inr (Or.inl rfl) | exact Or.inr (Or.inr rfl)) (hd : (x == ("__debug__" : Str)) = false := by decide)
    (hcd : (x == ("__classdict__" : Str)) = false := by decide) : XE X (.Name x pos) ρ (ρ.set i none) A := fun E T t σ H l st Q k => by
  obtain ⟨G, F, f, cs⟩ := st
  obtain ⟨v, F1, F2, e1, e2, ⟨e0, q⟩, c2⟩ := cs.slot l h
  subst e0
  exact wE.of (pe_var hN hv hd hcd) ⟨v, e1, k v H ⟨G, F1 ++ F2, f.perm e2, v, F1, F2, rfl, rfl, q, c2⟩⟩
end
end Mr

set_option Elab.async false
set_option linter.all false
set_option maxRecDepth 100000
/-! sorted(d) of a dict with int keys, however many -/
namespace Mr
open PySem PySem.Spec PyProof.Rows L2
def rSrtD : List V → Hp → VK → Prop := fun xs H Q => ∃ (a : Addr) (kvs : List (Key × V)) (ks : List Int), xs = [.ref a] ∧ Rd H a (.dK kvs) ∧ kvs.map (·.1) = ks.map Sum.inl ∧ ks.length ≤ 100000 ∧ ∀ (ys : List Int) (p : Addr), ys.Perm ks → ys.Pairwise (· ≤ ·) → H p = none → Q (.ref p) (upd H p (.lst (ys.map V.int)))
theorem cr_sortedD {X : Cx} (calm : X.calm = true) : CallR X (.builtin "sorted") rSrtD := by
  rintro pins s σ H _ us Q I r ⟨a, kvs, ks, rfl, rd, kk, few, q⟩
  rw [Vals.ref1 r]
  obtain ⟨z, lo, vs, rel, dd⟩ := dk_rd I.hok rd
  obtain ⟨ep, place⟩ := dd.dictAt
  have keys : vs.map (·.1) = ks.map Sum.inl := rel.keys.symm.trans kk
  have many : vs.length = ks.length := by simpa using congrArg List.length keys
  have size : (100000 : Nat) ≤ sizeLine := by rw [sizeLine_eq]; omega
  refine Calls.call_function_entry PyProof.Rows.kind_sorted PyProof.Rows.plain_sorted PyProof.Rows.entry_sorted (PyProof.Rows.args_sorted1 _) ?_
  unfold Builtin.«sorted»
  refine wpAny_bind (m := checkCount "sorted" 1 1 _) (wpAny_pure (wpAny_bind (PySem.W.kdu_collect (A := X.A.in1) (PySem.W.kdl_dict (knd := mixKind X.prog X.w) (kvs := vs) (ep := ep) lo) (I.ok.hd calm) place (by omega) fun h' tk acc old got => ?_)))
  have len : acc.toList.length = ks.length := by rw [Array.length_toList, got.1, many]
  have hints : IntsAre acc.toList ks := ints_each len fun j v e => by
    obtain ⟨k, x, e1, e2⟩ := got.2 j v (by rw [← Array.getElem?_toList]; exact e)
    have e3 : (ks.map (Sum.inl : Int → Key))[j]? = some k := by rw [← keys, List.getElem?_map, e1]; rfl
    obtain ⟨y, e4, rfl⟩ := Option.map_eq_some_iff.mp (by rw [← List.getElem?_map]; exact e3)
    rcases keyIs_shape (show keyIs (Sum.inl y) v = true from e2) with ⟨i, t, ek, ev⟩ | ⟨w, t, ek, ev⟩
    · exact ⟨y, t, e4, by cases ek; exact ev⟩
    · cases ek
  refine wpAny_bind (wpAny_newList ?_ (by omega))
  have there : (h'.push (seqObj "list" acc.toList.toArray 0)).get? h'.objs.size = some (seqObj "list" acc.toList.toArray 0) := Heap.get?_push_size _ rfl
  show wpAny _ _ _ _ _ { s with heap := h'.push (seqObj "list" acc.toList.toArray 0), toks := tk }
  refine wpAny_bind (wpAny_holding (wpAny_call_entry PyProof.Rows.slot_list_sort ⟨_, there, rfl⟩ PyProof.Rows.entry_list_sort (SrtO.list_sort_ord (s := { s with heap := h'.push (seqObj "list" acc.toList.toArray 0), toks := tk }) SrtO.swo_int there (by omega) (fun two => SrtO.ints_sortable hints two) fun out sd st => ⟨.none, rfl, ?_⟩) (PyProof.Rows.args_list_sort _)))
  obtain ⟨k1, k2, k3⟩ := SrtO.ints_out hints sd st
  obtain ⟨e', he'⟩ := PyProof.Rows.sortedHeap_at (vs := acc.toList) (out := out.toArray) there
  have J : Inv X pins σ H { s with heap := h', toks := tk } := I.kept old
  have short : ((out.map SrtO.iv).map V.int).length ≤ sizeLine := by rw [List.length_map, k2.length_eq]; omega
  refine wpAny_pure ⟨_, rfl, .ref h'.objs.size, upd H h'.objs.size (.lst ((out.map SrtO.iv).map V.int)), J.laid (t' := tk) (fun b u e => ?_) (Nat.le_refl _) ⟨short, out, e', vals_of_ints k1, he'⟩, rfl, q _ _ k2 k3 (J.hok.fresh (Nat.le_refl _))⟩
  have lt := Heap.lt_size e
  rw [PyProof.Rows.sortedHeap_old (Nat.ne_of_lt lt) (by rw [size_push']; exact Nat.lt_succ_of_lt lt)]
  exact Heap.get?_push_of_some _ e
section
variable {X : Cx} {ρ ρ1 : Cl} {o : Expr} {v0 : V} {p pos : Pos} {w : OA → Cl} {kvs : List (Int × List PyData)}
theorem xe_dsortedN {α : Type} [Cd α] {kvs : List (Int × α)} (hc : X.calm = true) (hz : kvs.length ≤ 100000) (ho : XE X o ρ ρ1 (aV v0)) (O : Own ρ1 v0 (aDK X.K (dD kvs)) w) (hm : X.mg "sorted" = none) (hg : Gl X "sorted" := by rfl) (hs : starEach [o] X.env = [(false, eval o X.env)] := by rfl) (hpl : (backTo pos (starEach [] X.env)).any (·.1) = false := by rfl) : XE X (.Call (.Name "sorted" p) [o] [] pos) ρ ρ1 (aLD X.K ((srtI (dKeys kvs)).map PyData.int)) :=
  xe_callB (cr_sortedD hc) (xa_cons ho xa_nil hs) (fun E T t σ vs H Q l hl st k => by
    obtain ⟨v, rfl⟩ := vs1 hl
    have e0 := ST.topV st
    subst e0
    obtain ⟨G, F, f, c⟩ := ST.pop st
    obtain ⟨q, ws, e1, h1, h2⟩ := ST.seeD l c O
    refine ⟨q, ws, dKeys kvs, by rw [e1], .inl h1, by rw [h2.keys, dKeys_d], by unfold dKeys; rw [List.length_map]; exact hz, fun ys p' hp hsrt hn => ?_⟩
    have e := sorted_unique (hp.trans (srtI_perm _).symm) hsrt (srtI_sorted _)
    subst e
    exact k _ _ (ST.newL f c hn (dqI _))) hm (by decide +kernel) hg (by decide) (by decide) hs hpl
end
end Mr

set_option Elab.async false
set_option linter.all false
set_option maxRecDepth 100000
/-! tuples of one or two items; tuples of many items as data; x in a written tuple of texts; a list times a number -/
namespace Mr
open PySem PySem.Spec PyProof.Rows L2
/-- a tuple whose second item may be missing -/
structure TP (α β : Type) where
  a : α
  o : Option β
  deriving DecidableEq
/-- a tuple of as many items as there are -/
structure Tu (α : Type) where
  l : List α
  deriving DecidableEq
instance {α β : Type} [Cd α] [Cd β] : Cd (TP α β) := ⟨fun p => .tuple (Cd.d p.a :: p.o.toList.map Cd.d), max (Cd.dep α) (Cd.dep β) + 1, fun p => by
  obtain ⟨a, o⟩ := p
  cases o <;> simp [PyData.canLay0, PyData.canLayAll0, Cd.can], fun p => by
  obtain ⟨a, o⟩ := p
  have h1 := Cd.hdep a
  cases o with
  | none => simp only [PyData.depth, PyData.depthAll, Option.toList, List.map_nil]; omega
  | some b =>
    have h2 := Cd.hdep b
    simp only [PyData.depth, PyData.depthAll, Option.toList, List.map_cons, List.map_nil]
    omega⟩
instance {α : Type} [Cd α] : Cd (Tu α) := ⟨fun p => .tuple (p.l.map Cd.d), Cd.dep α + 1, fun p => by simp [PyData.canLay0, can_all], fun p => by
  have := dep_all p.l
  simp only [PyData.depth]
  omega⟩
instance {α β : Type} [Cd α] [Cd β] : Cn (TP α β) := ⟨fun _ => rfl⟩
instance {α : Type} [Cd α] : Cn (Tu α) := ⟨fun _ => rfl⟩
instance {α β : Type} [Cd α] [Cd β] [DecidableEq α] [DecidableEq β] [Ce α] [Ce β] : Ce (TP α β) := ⟨fun x y => by
  show PyData.eqv (.tuple _) (.tuple _) = _
  obtain ⟨x1, x2⟩ := x
  obtain ⟨y1, y2⟩ := y
  cases x2 <;> cases y2 <;> simp [PyData.eqv, PyData.eqvAll, Ce.eqv, TP.mk.injEq]⟩
instance {α : Type} [Cd α] [DecidableEq α] [Ce α] : Ce (Tu α) := ⟨fun x y => by
  show PyData.eqv (.tuple _) (.tuple _) = _
  obtain ⟨x⟩ := x
  obtain ⟨y⟩ := y
  rw [PyData.eqv]
  simp only [Tu.mk.injEq]
  exact eqv_all x y⟩
section
variable {X : Cx} {ρ ρ1 ρ2 : Cl} {a b e : Expr} {pos : Pos} {A B : OA} {α β : Type} [Cd α] [Cd β]
theorem xe_tp0 {p : TP α β} (ha : XE X a ρ ρ1 (aD X.K (Cd.d p))) (hb : XE X b ρ1 ρ2 (aD X.K (.int 0))) (hs : PlainIx b := by exact fun _ _ => rfl) : XE X (.Subscript a b pos) ρ ρ2 (aD X.K (Cd.d p.a)) := xe_ixT ha hb rtD (by
  unfold atI ixN
  rw [if_pos (by decide), if_pos (by simp only [List.length_cons]; omega)]
  rfl) hs
theorem xe_tp1 {p : TP α β} {v : β} (h : p.o = some v) (ha : XE X a ρ ρ1 (aD X.K (Cd.d p))) (hb : XE X b ρ1 ρ2 (aD X.K (.int 1))) (hs : PlainIx b := by exact fun _ _ => rfl) : XE X (.Subscript a b pos) ρ ρ2 (aD X.K (Cd.d v)) := xe_ixT ha hb rtD (by
  rw [h]
  rfl) hs
theorem dq_words {K : PySem.W.Frag} {G : Hp} : ∀ {ys : List V} {xs : List Wd}, DqAll K G ys (xs.map Cd.d) → ys = xs.map fun x => V.str x.1
  | _, [], h => by cases h; rfl
  | _, x :: xs, h => by
    cases h with
    | cons h1 h2 =>
      have h1 : Dq K G _ (PyData.str x.1) := h1
      cases h1
      rw [dq_words h2]
      rfl
theorem inV_word (x : Wd) (xs : List Wd) : inV (V.str x.1) (xs.map fun x => V.str x.1) = decide (x ∈ xs) := by
  unfold inV
  induction xs with
  | nil => rfl
  | cons y ys ih =>
    rw [List.map_cons, List.any_cons, ih]
    show ((y.1 == x.1) || _) = _
    by_cases q : y = x
    · subst q
      rw [decide_eq_true (List.mem_cons_self), beq_self_eq_true]
      rfl
    · have : (y.1 == x.1) = false := by
        rw [beq_eq_false_iff_ne]
        exact fun h => q (Subtype.ext h)
      rw [this, Bool.false_or]
      have e : (x ∈ y :: ys) ↔ (x ∈ ys) := ⟨fun h => (List.mem_cons.mp h).elim (fun h => absurd h.symm q) id, List.mem_cons_of_mem _⟩
      exact decide_eq_decide.mpr e.symm
/-- x in a written tuple of texts -/
theorem xk_inW {x : Wd} {ws : List Wd} (ha : XE X a ρ ρ1 (aD X.K (Cd.d x))) (hb : XE X b ρ1 ρ2 B) (r : Rtu X.K ρ2 B (ws.map Cd.d)) (hm : behindInMarks .In b = false := by first | rfl | exact nomark _) : XKm X (.Compare a [.In] [b] pos) ρ ρ2 (decide (x ∈ ws)) :=
  ⟨_, pe_cmpR op_in_seq peS peS hm, pt_cmpR op_in_seq peS peS hm, fun E T t σ H l st Q kk => ha E T t σ H l st _ fun u H1 st1 => hb E (_ :: T) (_ :: t) σ H1 (by simp [l]) st1 _ fun y H2 st2 => by
    obtain ⟨G, F, Fv, Fw, f, c, q1, q2⟩ := ST.two st2
    obtain ⟨q1, _⟩ := q1
    have q1 : Dq X.K G u (PyData.str x.1) := q1
    cases q1
    obtain ⟨p, ys, e1, e2, e3⟩ := r l c f.gh q2
    have e4 := dq_words e3
    subst e4
    refine ⟨p, _, e1, .inr e2, rfl, ?_, ?_⟩
    · rw [List.all_map]
      exact List.all_eq_true.mpr fun _ _ => rfl
    · show Q (V.bl (inV (V.str x.1) (ws.map fun x => V.str x.1))) H2
      rw [inV_word]
      exact kk _ _ (ST.put f c (.bl _))⟩
end
end Mr

set_option Elab.async false
set_option linter.all false
set_option maxRecDepth 100000
/-! shifts of great ints; a list of ints or ["refused", b] -/
namespace Mr
open PySem PySem.Spec PyProof.Rows L2
def ShOk (i j : Int) : Prop := 0 ≤ j ∧ j ≤ 1000 ∧ i.natAbs < 2 ^ 1000
instance (i j : Int) : Decidable (ShOk i j) := by unfold ShOk; exact inferInstance
section
variable {X : Cx} {ρ ρ1 ρ2 : Cl} {a b : Expr} {pos : Pos} {i j : Int}
theorem xe_shlW (hc : ShOk i j) (ha : XE X a ρ ρ1 (aD X.K (.int i))) (hb : XE X b ρ1 ρ2 (aD X.K (.int j))) : XE X (.BinOp a .LShift b pos) ρ ρ2 (aD X.K (.int (i * 2 ^ j.toNat))) := xe_opI (g := fun i j => i * 2 ^ j.toNat) op_shlW ha hb (by
  obtain ⟨h0, h1, h2⟩ := hc
  have := shl_ok (i := i) (j := j.toNat) (n := 1000) h2 (by omega)
  rwa [Int.toNat_of_nonneg h0] at this)
end
/-- a list of ints, or ["refused", b] -/
inductive Rf
  | ok (l : List Int)
  | no (b : Bool)
  deriving DecidableEq
def w_ref : Wd := ⟨"refused", by decide +kernel⟩
instance : Cd Rf := ⟨fun x => match x with | .ok xs => Cd.d xs | .no b => .list [Cd.d w_ref, Cd.d b], 1, fun x => by
  cases x with
  | ok xs => exact Cd.can xs
  | no b => simp [PyData.canLay0, PyData.canLayAll0, Cd.can], fun x => by
  cases x with
  | ok xs => exact Cd.hdep xs
  | no b =>
    have h1 := Cd.hdep w_ref
    have h2 := Cd.hdep b
    have e1 : Cd.dep Wd = 0 := rfl
    have e2 : Cd.dep Bool = 0 := rfl
    simp only [PyData.depth, PyData.depthAll]
    omega⟩
instance : Cn Rf := ⟨fun x => by cases x <;> rfl⟩
instance : Ce Rf := ⟨fun x y => by
  cases x with
  | ok xs =>
    cases y with
    | ok ys =>
      show PyData.eqv (Cd.d xs) (Cd.d ys) = _
      rw [Ce.eqv]
      exact decide_eq_decide.mpr ⟨fun h => congrArg Rf.ok h, fun h => by cases h; rfl⟩
    | no b =>
      show PyData.eqv (.list _) (.list _) = _
      rw [decide_eq_false (fun h => by cases h)]
      cases xs with
      | nil => simp [PyData.eqv, PyData.eqvAll]
      | cons x xs => 
        show PyData.eqv (.list (PyData.int x :: _)) (.list (PyData.str w_ref.1 :: _)) = _
        simp [PyData.eqv, PyData.eqvAll]
  | no a =>
    cases y with
    | ok ys =>
      show PyData.eqv (.list _) (.list _) = _
      rw [decide_eq_false (fun h => by cases h)]
      cases ys with
      | nil => simp [PyData.eqv, PyData.eqvAll]
      | cons x xs => 
        show PyData.eqv (.list (PyData.str w_ref.1 :: _)) (.list (PyData.int x :: _)) = _
        simp [PyData.eqv, PyData.eqvAll]
    | no b =>
      show PyData.eqv (.list _) (.list _) = _
      rw [PyData.eqv]
      simp only [PyData.eqvAll, Ce.eqv]
      rw [Bool.eq_iff_iff]
      simp⟩
section
variable {X : Cx} {ρ ρ1 : Cl} {e : Expr}
theorem xe_rfOk {xs : List Int} (h : XE X e ρ ρ1 (aD X.K (Cd.d xs))) : XE X e ρ ρ1 (aD X.K (Cd.d (Rf.ok xs))) := h
theorem xe_rfNo {b : Bool} (h : XE X e ρ ρ1 (aL [aD X.K (Cd.d w_ref), aD X.K (Cd.d b)])) : XE X e ρ ρ1 (aD X.K (Cd.d (Rf.no b))) := xe_frz (ds := [Cd.d w_ref, Cd.d b]) h
end
end Mr

set_option Elab.async false
set_option linter.all false
set_option maxRecDepth 100000
/-! a value of one of two kinds -/
namespace Mr
open PySem PySem.Spec PyProof.Rows L2
inductive Sm (α β : Type)
  | l (x : α)
  | r (y : β)
  deriving DecidableEq
instance {α β : Type} [Cd α] [Cd β] : Cd (Sm α β) := ⟨fun s => match s with | .l x => Cd.d x | .r y => Cd.d y, max (Cd.dep α) (Cd.dep β), fun s => by cases s <;> exact Cd.can _, fun s => by
  cases s with
  | l x => exact Nat.le_trans (Cd.hdep x) (Nat.le_max_left _ _)
  | r y => exact Nat.le_trans (Cd.hdep y) (Nat.le_max_right _ _)⟩
instance {α β : Type} [Cd α] [Cd β] [Cn α] [Cn β] : Cn (Sm α β) := ⟨fun s => by
  cases s with
  | l x => exact Cn.nn (α := α) x
  | r y => exact Cn.nn (α := β) y⟩
section
variable {α β γ δ ε ζ η θ ι : Type} [Cd α] [Cd β] [Cd γ] [Cd δ] [Cd ε] [Cd ζ] [Cd η] [Cd θ] [Cd ι] [DecidableEq α] [DecidableEq β] [DecidableEq γ] [DecidableEq δ] [DecidableEq ε] [DecidableEq ζ] [DecidableEq η] [DecidableEq θ] [DecidableEq ι] [Ce α] [Ce β] [Ce γ] [Ce δ] [Ce ε] [Ce ζ] [Ce η] [Ce θ] [Ce ι]
instance : Ce (Sm (T6 α β γ δ ε ζ) (T3 η θ ι)) := ⟨fun x y => by
  cases x with
  | l x =>
    cases y with
    | l y =>
      show PyData.eqv (Cd.d x) (Cd.d y) = _
      rw [Ce.eqv]
      exact decide_eq_decide.mpr ⟨fun h => congrArg Sm.l h, fun h => by cases h; rfl⟩
    | r y =>
      show PyData.eqv (.tuple _) (.tuple _) = _
      rw [decide_eq_false (fun h => by cases h)]
      simp [PyData.eqv, PyData.eqvAll]
  | r x =>
    cases y with
    | l y =>
      show PyData.eqv (.tuple _) (.tuple _) = _
      rw [decide_eq_false (fun h => by cases h)]
      simp [PyData.eqv, PyData.eqvAll]
    | r y =>
      show PyData.eqv (Cd.d x) (Cd.d y) = _
      rw [Ce.eqv]
      exact decide_eq_decide.mpr ⟨fun h => congrArg Sm.r h, fun h => by cases h; rfl⟩⟩
end
section
variable {X : Cx} {ρ ρ1 : Cl} {e : Expr} {α β : Type} [Cd α] [Cd β]
theorem xe_smL {x : Option α} (h : XE X e ρ ρ1 (aD X.K (Cd.d x))) : XE X e ρ ρ1 (aD X.K (Cd.d (x.map (Sm.l (β := β))))) := by cases x <;> exact h
theorem xe_smR {x : Option β} (h : XE X e ρ ρ1 (aD X.K (Cd.d x))) : XE X e ρ ρ1 (aD X.K (Cd.d (x.map (Sm.r (α := α))))) := by cases x <;> exact h
theorem xe_sm1 {x : α} (h : XE X e ρ ρ1 (aD X.K (Cd.d x))) : XE X e ρ ρ1 (aD X.K (Cd.d (some (Sm.l (β := β) x)))) := h
theorem xe_sm2 {x : β} (h : XE X e ρ ρ1 (aD X.K (Cd.d x))) : XE X e ρ ρ1 (aD X.K (Cd.d (some (Sm.r (α := α) x)))) := h
def Sm.getL {α β : Type} : Sm α β → Option α
  | .l x => some x
  | .r _ => none
theorem xe_smAs {s : Sm α β} {x : α} (h : s.getL = some x) (ha : XE X e ρ ρ1 (aD X.K (Cd.d s))) : XE X e ρ ρ1 (aD X.K (Cd.d x)) := by
  cases s with
  | l y => cases h; exact ha
  | r y => cases h
def sm0 {β γ δ ε ζ θ ι : Type} : Sm (T6 Wd β γ δ ε ζ) (T3 Wd θ ι) → Wd
  | .l x => x.a
  | .r y => y.a
theorem xe_sm0 {β γ δ ε ζ θ ι : Type} [Cd β] [Cd γ] [Cd δ] [Cd ε] [Cd ζ] [Cd θ] [Cd ι] {a b : Expr} {pos : Pos} {ρ2 : Cl} {s : Sm (T6 Wd β γ δ ε ζ) (T3 Wd θ ι)} (ha : XE X a ρ ρ1 (aD X.K (Cd.d s))) (hb : XE X b ρ1 ρ2 (aD X.K (.int 0))) (hs : PlainIx b := by exact fun _ _ => rfl) : XE X (.Subscript a b pos) ρ ρ2 (aD X.K (Cd.d (sm0 s))) := by
  cases s with
  | l x => exact xe_ixT ha hb rtD rfl hs
  | r y => exact xe_ixT ha hb rtD rfl hs
end
end Mr

set_option Elab.async false
set_option linter.all false
set_option maxRecDepth 100000
/-! xs[lo:hi] = ys -/
namespace L2
open PySem PySem.Spec PyProof.Rows
section
variable {prog : Program} {w : World} {A : Around} {E : Value → Shared → Prop} {s : Shared}
theorem setItem_cut {l b sl : Addr} {items new : Array Value} {n n2 : Nat} {vl vu : Value} {lo hi : Option Int} {a c : Nat} {Q : Unit → Shared → Prop}
    (e : s.heap.get? l = some { cls := .type "list", data := .seq items n }) (e2 : s.heap.get? b = some { cls := .type "list", data := .seq new n2 }) (hne : l ≠ b)
    (hs : s.heap.IsSliceOf sl vl vu .none) (pl : IsPart vl lo) (pu : IsPart vu hi) (ea : HT.sIx items.size 0 lo = a) (ec : HT.sIx items.size items.size hi = c)
    (hsz : items.size + new.size ≤ sizeLine) (h : Q () { s with heap := s.heap.update l (Obj.mapSeq fun xs => xs.extract 0 a ++ new ++ xs.extract (max a c) xs.size) }) :
    wpAny (model prog w) A (setItem (.ref l) (.ref sl) (.ref b)) Q E s := by
  have hl : s.heap.IsList l items := PySem.IsL.isList e
  have hb : s.heap.IsList b new := PySem.IsL.isList e2
  obtain ⟨os, hos, hcs, hds⟩ := id hs
  have hTs : s.TypeIs (.ref sl) "slice" := ⟨os, hos, hcs⟩
  have hstep : ¬ ((rawPart none == rawInt 0) = true) := Bool.false_ne_true
  have hsame : Builtin.List.listSameRef (.ref l) (.ref b) = false := by
    unfold Builtin.List.listSameRef
    exact beq_eq_false_iff_ne.mpr hne
  have hmax : (max (a : Int) (c : Int)).toNat = max a c := by omega
  have hz' : ((fun xs : Array Value => xs.extract 0 a ++ new ++ xs.extract (max a c) xs.size) items).size ≤ sizeLine + 1 := by
    simp only [Array.size_append, Array.size_extract]
    omega
  have bnd : sliceBounds lo hi none items.size = ((a : Int), (c : Int), 1) := by
    obtain ⟨h1, h2, h3⟩ := slice_bounds lo hi items.size
    rw [ea] at h1
    rw [ec] at h2
    exact Prod.ext h1 (Prod.ext h2 h3)
  unfold setItem
  try with_reducible refine wpAny_holding ?_
  first | refine wpAny_bind (wpAny_pure ?_) | skip
  refine wpAny_bind (wpAny_sequenceKey hl.typeIs (by decide) ?_)
  refine wpAny_bind (wpAny_callSpecial?_slot (name := Str.ofString "__setitem__") hl.typeIs slot_list_setitem
    (wpAny_call_entry slot_list_setitem hl.typeIs entry_list_setitem ?_ (args_list_setitem _ _ _)))
  show wpAny _ _ (Builtin.List.listSubscript? (.ref sl) >>= _) _ _ s
  refine wpAny_bind ?_
  unfold Builtin.List.listSubscript?
  refine wpAny_bind (wpAny_specialOf hTs slice_no_index ?_)
  simp only [Option.isNone_none, if_true]
  refine wpAny_pure ?_
  show wpAny _ _ (typeOf (.ref sl) >>= _) _ _ s
  refine wpAny_bind (wpAny_typeOf hTs ?_)
  first
    | rw [if_neg (by decide)]
    | refine PySem.W.KFB.if_not (by decide) ?_
  rw [listSliceParts_eq]
  refine wpAny_bind (wpAny_bind (wpAny_field hos hds (x := .none) rfl (wpAny_bind (wpAny_listPart .none ?_))))
  rw [if_neg hstep]
  refine wpAny_bind (wpAny_field hos hds (x := vl) rfl (wpAny_bind (wpAny_listPart pl ?_)))
  refine wpAny_bind (wpAny_field hos hds (x := vu) rfl (wpAny_bind (wpAny_listPart pu (wpAny_pure ?_))))
  first
    | simp only [hsame, Bool.false_eq_true, if_false]
    | refine PySem.W.KFB.if_not hsame ?_
    | (dsimp only
       rw [if_neg (by rw [hsame]; exact Bool.false_ne_true)])
  refine wpAny_bind (m := Builtin.List.listAllItems (.ref b) "must assign iterable to extended slice") ?_
  unfold Builtin.List.listAllItems
  refine wpAny_bind (wpAny_typeOf hb.typeIs ?_)
  first
    | refine PySem.W.KFB.if_so (by decide) ?_
    | rw [if_pos (by decide)]
    | simp only [beq_self_eq_true, Bool.true_or, if_true]
  unfold Builtin.List.listItems
  refine wpAny_bind (wpAny_seqItems e2 rfl (wpAny_pure ?_))
  refine wpAny_bind (wpAny_bind (wpAny_seqItems e rfl (wpAny_pure ?_)))
  refine wpAny_bind (wpAny_of_eq ((sliceIndices_raw lo hi none items.size (by simp)).trans (congrArg (pure : Int × Int × Int → Sem (Int × Int × Int)) bnd)) ?_)
  show wpAny _ _ (if ((1 : Int) == 1) = true then _ else _) _ _ s
  rw [if_pos (by decide)]
  refine wpAny_bind (wpAny_rule ?_)
  first
    | simp only [notLongL hsz, Bool.false_eq_true, if_false]
    | refine PySem.W.KFB.if_not (notLongL hsz) ?_
  first | refine wpAny_bind (wpAny_pure ?_) | skip
  show wpAny _ _ (updateSeq l (fun xs => xs.extract 0 ((a : Int)).toNat ++ new ++ xs.extract (max (a : Int) (c : Int)).toNat xs.size) >>= _) _ _ s
  rw [hmax, Int.toNat_natCast]
  refine wpAny_bind (wpAny_updateSeq (hz := Nat.le_trans (Nat.le_add_right _ _) hsz) (_hz' := hz') e rfl ?_)
  refine wpAny_bind (wpAny_letGo ?_)
  first
    | exact wpAny_bind (wpAny_pure (wpAny_pure ⟨.none, rfl, wpAny_pure h⟩))
    | exact wpAny_pure ⟨.none, rfl, wpAny_pure h⟩
end
/-- a list with a cut of it exchanged -/
def splC {α : Type} (xs : List α) (lo hi : Option Int) (ys : List α) : List α := xs.take (HT.sIx xs.length 0 lo) ++ ys ++ xs.drop (max (HT.sIx xs.length 0 lo) (HT.sIx xs.length xs.length hi))
section
variable {X : Cx}
theorem set_cut {pins : List (Addr × Obj)} {s : Shared} {σ : St} {H : Hp} {l b sl : Addr} {xs ys : List V} {lo hi : Option Int} {vl vu : Value} {Q : Unit → Shared → Prop} (I : Inv X pins σ H s)
    (hH : H l = some (.lst xs)) (hB : H b = some (.lst ys)) (hne : l ≠ b) (hs : s.heap.IsSliceOf sl vl vu .none) (pl : IsPart vl lo) (pu : IsPart vu hi)
    (hz : xs.length + ys.length ≤ sizeLine) (h : ∀ s', Inv X pins σ (upd H l (.lst (splC xs lo hi ys))) s' → Q () s') :
    wpAny (model X.prog X.w) X.A (setItem (.ref l) (.ref sl) (.ref b)) Q X.xe s := by
  obtain ⟨z, its, n, r, hl, e⟩ := I.lstM hH
  obtain ⟨z2, its2, n2, r2, hl2, e2⟩ := I.lstM hB
  refine setItem_cut (lo := lo) (hi := hi) (a := HT.sIx xs.length 0 lo) (c := HT.sIx xs.length xs.length hi) e e2 hne hs pl pu (by rw [List.size_toArray, ← hl]) (by rw [List.size_toArray, ← hl]) (by rw [List.size_toArray, List.size_toArray]; omega) (h _ ?_)
  refine I.lset (its' := its.take (HT.sIx xs.length 0 lo) ++ its2 ++ its.drop (max (HT.sIx xs.length 0 lo) (HT.sIx xs.length xs.length hi))) (t' := s.toks) hH e ?_ (Vals.append (Vals.append (r.take _) r2) (r.drop _)) ?_
  · exact splice_eq its its2 _ _
  · unfold splC
    rw [List.length_append, List.length_append, List.length_take, List.length_drop]
    omega
def gCut (to : TE) (tl th : TO) : TG := fun v σ H Q => to σ H fun x H1 => tl σ H1 fun lo H2 => th σ H2 fun hi H3 => ∃ l b xs ys, x = .ref l ∧ v = .ref b ∧ H3 l = some (.lst xs) ∧ H3 b = some (.lst ys) ∧ l ≠ b ∧ xs.length + ys.length ≤ sizeLine ∧ Q σ (upd H3 l (.lst (splC xs lo hi ys)))
theorem pg_cut {o : Expr} {lo hi : Option Expr} {to : TE} {tl th : TO} {pos p2 : Pos} (ho : PE X o to) (hl : PO X lo tl) (hu : PO X hi th) : PG X (.Subscript o (.Slice lo hi none p2) pos) (gCut to tl th) := by
  have ha : ∀ v, assign (.Subscript o (.Slice lo hi none p2) pos) X.env v = (do
      let ov ← holding [v] (eval o X.env)
      let iv ← holding [v, ov] (eval (.Slice lo hi none p2) X.env)
      standAt pos
      holding [v, ov, iv] (setItem ov iv v)
      release [iv, v, ov] []) := fun _ => rfl
  refine ⟨fun pins s σ H v u Q I r h => ?_⟩
  rw [ha]
  refine wpAny_bind (wpAny_holding (thn (ho.run pins s σ H _ I h) fun ov s1 ⟨x, H1, I1, r1, q1⟩ => ?_))
  refine wpAny_bind (wpAny_holding (wpAny_Slice (thn (hl.run pins s1 σ H1 _ I1 q1) fun vl s2 ⟨l, H2, I2, pl, q2⟩ => thn (hu.run pins s2 σ H2 _ I2 q2) fun vu s3 ⟨u, H3, I3, pu, q3⟩ => ?_)))
  rw [evalPart_none]
  refine wpAny_pure ?_
  have I4 : Inv X pins σ H3 { s3 with heap := s3.heap.push { cls := .type "slice", data := .fields #[vl, vu, .none] } } := I3.kept (t' := s3.toks) fun b ob q => Heap.get?_push_of_some _ q
  obtain ⟨p, b, xs, ys, rfl, rfl, h1, h2, hne, hz, q⟩ := q3
  cases r1
  cases r
  refine wpAny_bind (wpAny_standAt (wpAny_bind (wpAny_holding (set_cut I4 h1 h2 hne (Heap.IsSliceOf.new ..) pl pu hz fun s' I' => ?_))))
  exact wpAny_release ⟨σ, _, I', q⟩
end
end L2
namespace Mr
open PySem PySem.Spec PyProof.Rows L2
theorem splC_map {α β : Type} (f : α → β) (xs ys : List α) (lo hi : Option Int) : splC (xs.map f) lo hi (ys.map f) = (splC xs lo hi ys).map f := by
  unfold splC
  simp only [List.length_map, List.map_append, List.map_take, List.map_drop]
theorem dq_spl {K : PySem.W.Frag} {G : Hp} {vs us : List V} {ds es : List PyData} (lo hi : Option Int) (h : DqAll K G vs ds) (q : DqAll K G us es) : DqAll K G (splC vs lo hi us) (splC ds lo hi es) := by
  unfold splC
  rw [h.len]
  exact ((h.take _).append q).append (h.drop _)
section
variable {X : Cx} {ρ ρ1 ρ2 : Cl} {o : Expr} {lo hi : Option Expr} {pos p2 : Pos} {v0 : V} {w : OA → Cl} {i j : Option Int}
theorem xp_cut {ds es : List PyData} (ho : XE X o ρ ρ (aV v0)) (hl : XO X lo ρ ρ1 i) (hh : XO X hi ρ1 ρ2 j) (O : Own ρ2 v0 (aLD X.K ds) w) (hz : ds.length + es.length ≤ 1000000) : XP X (.Subscript o (.Slice lo hi none p2) pos) (aD X.K (.list es)) ρ (w (aLD X.K (splC ds i j es))) := fun E T t σ H v l st Q k => by
  have part : ∀ {e : Option Expr} {n : Option Int} {ρ ρ' : Cl} {x : V} {H2 : Hp} {R : Option Int → Hp → Prop}, XO X e ρ ρ' n → ST E (some (aV v0) :: some (aD X.K (.list es)) :: (T ++ ρ)) (some x :: some v :: (t ++ σ)) H2 → (∀ H3, ST E (some (aV v0) :: some (aD X.K (.list es)) :: (T ++ ρ')) (some x :: some v :: (t ++ σ)) H3 → R n H3) → uO X e σ H2 R := fun {e n ρ ρ' x H2 R} h st k => by
    match e, n, h with
    | none, none, h =>
      cases (show ρ = ρ' from h)
      exact k _ st
    | some e, some n, h =>
      refine (show XE X e ρ ρ' (aD X.K (.int n)) from h) E (_ :: _ :: T) (_ :: _ :: t) σ H2 (by simp [l]) st _ fun y H3 st3 => ?_
      obtain ⟨G, F, f, cs, q⟩ := ST.top st3
      cases q
      exact ⟨n, rfl, k _ ⟨G, F, f, cs⟩⟩
  refine wG.of (pg_cut peS (uO_po lo) (uO_po hi)) (ho E (_ :: T) (_ :: t) σ H (by simp [l]) st _ fun x H1 st1 => part hl st1 fun H2 st2 => part hh st2 fun H3 st3 => ?_)
  have e0 := ST.topV st3
  subst e0
  obtain ⟨G, F, f, c, qv⟩ := ST.top (ST.pop st3)
  obtain ⟨F1, F2, e1, ⟨p, vs, F', e2, e3, h1, c1⟩, go⟩ := O.get l c
  obtain ⟨q1, q2⟩ := csD c1
  subst e2 e3 q2
  have hp : G p = none := f.dis p (e1.symm.subset (by simp))
  cases qv with
  | lst hb hq =>
    rename_i b ys
    have hne : p ≠ b := fun e => by rw [e, hb] at hp; cases hp
    refine ⟨p, b, vs, ys, rfl, rfl, h1, f.gh _ _ hb, hne, by rw [q1.len, hq.len]; exact Nat.le_trans hz (by decide), k _ _ ?_⟩
    have f1 := f.perm e1
    have f2 : Frm ⟨G, H3, [p]⟩ G H3 [p] := (f1.less (List.sublist_append_left _ _)).start
    have f3 := Frm.write (o := .lst (splC vs i j ys)) f2
    obtain ⟨f5, st5⟩ := f.step e1 f3
    obtain ⟨F6, e8, c4⟩ := go (.refl _) f5.gh st5 (B := aLD X.K (splC ds i j es)) (F1' := [p]) ⟨p, _, [], rfl, rfl, upd_same, csD' (dq_spl i j q1 hq)⟩
    exact ⟨G, F6, f5.perm e8.symm, c4⟩
theorem xc_cut {α : Type} [Cd α] {xs ys : List α} (ho : XE X o ρ ρ (aV v0)) (hl : XO X lo ρ ρ1 i) (hh : XO X hi ρ1 ρ2 j) (O : Own ρ2 v0 (aLD X.K (xs.map Cd.d)) w) (hz : xs.length + ys.length ≤ 1000000) : XP X (.Subscript o (.Slice lo hi none p2) pos) (aD X.K (Cd.d ys)) ρ (w (aLD X.K ((splC xs i j ys).map Cd.d))) := by
  have q := xp_cut (es := ys.map Cd.d) (pos := pos) (p2 := p2) ho hl hh O (by simpa using hz)
  rw [splC_map] at q
  exact q
end
end Mr

set_option Elab.async false
set_option linter.all false
set_option maxRecDepth 100000
/-! owned lists of owned lists -/
namespace Mr
open PySem PySem.Spec PyProof.Rows L2
/-- an owned list of owned lists of data -/
def aLO (K : PySem.W.Frag) {α : Type} [Cd α] (xss : List (List α)) : OA := aL (xss.map fun xs => aLD K (xs.map Cd.d))
section
variable {K : PySem.W.Frag} {α : Type} [Cd α] {ρ : Cl} {v0 : V} {w : OA → Cl}
theorem lo_dp {G H : Hp} (e : Ex G H) : ∀ {xss : List (List α)} {vs : List V} {F : List Addr}, Cs G H ((xss.map fun xs => aLD K (xs.map Cd.d)).map some) (vs.map some) F → DpAll K H vs (xss.map Cd.d)
  | [], [], _, _ => .nil
  | [], _ :: _, _, h => h.elim
  | _ :: _, [], _, h => h.elim
  | xs :: xss, x :: vs, F, h => by
    obtain ⟨v, F1, F2, e1, e2, a, c⟩ := h
    cases e1
    obtain ⟨p, us, F', e3, e4, h1, c1⟩ := a
    obtain ⟨q1, q2⟩ := csD c1
    subst e3
    exact .cons (.lst (.inl (.inl h1)) (DqAll.dp _ _ (DqAll.mono e _ _ q1))) (lo_dp e c)
theorem rdLO {xss : List (List α)} (O : Own ρ v0 (aLO K xss) w) : Rda K ρ (aV v0) (Cd.d xss) := fun l c e p => by
  obtain ⟨e0, _⟩ := p
  obtain ⟨F1, F2, e1, ⟨q, vs, F', e2, e3, h1, c1⟩, go⟩ := O.get l c
  subst e0
  subst e2
  exact .lst (.inl (.inl h1)) (lo_dp e c1)
theorem rdLOF {xss : List (List α)} : Rda K ρ (aLO K xss) (Cd.d xss) := fun l c e p => by
  obtain ⟨q, vs, F', e2, e3, h1, c1⟩ := p
  subst e2
  exact .lst (.inl (.inl h1)) (lo_dp e c1)
theorem rtyLO {xss : List (List α)} (O : Own ρ v0 (aLO K xss) w) : Rty K ρ (aV v0) "list" := fun l c e p => by
  obtain ⟨e0, _⟩ := p
  obtain ⟨F1, F2, e1, ⟨q, vs, F', e2, e3, h1, c1⟩, go⟩ := O.get l c
  subst e0
  subst e2
  exact sql_ty (.inl (.inl h1))
end
theorem xe_stE {X : Cx} {e : Expr} {ρ ρ1 : Cl} {A : OA} (ρ1' : Cl) (h : XE X e ρ ρ1 A) (q : ρ1 = ρ1' := by rfl) : XE X e ρ ρ1' A := q ▸ h
/-- items by their values -/
def pinned (vs : List V) (As : List OA) : List OA := List.zipWith pin vs As
theorem pinned_len {vs : List V} {As : List OA} (h : vs.length = As.length) : (pinned vs As).length = As.length := by
  unfold pinned
  rw [List.length_zipWith]
  omega
theorem pinned_at {vs : List V} {As : List OA} {k : Nat} {v : V} {A : OA} (h1 : vs[k]? = some v) (h2 : As[k]? = some A) : (pinned vs As)[k]? = some (pin v A) := by
  unfold pinned
  rw [List.getElem?_zipWith, h1, h2]
theorem pinned_set : ∀ {vs : List V} {As : List OA} {k : Nat} {v : V} {A : OA}, vs[k]? = some v → (pinned vs As).set k (pin v A) = pinned vs (As.set k A)
  | [], _, _, _, _, h => by simp at h
  | _ :: _, [], k, _, _, h => by simp [pinned]
  | x :: vs, B :: As, 0, v, A, h => by
    have : x = v := by simpa using h
    subst this
    rfl
  | x :: vs, B :: As, k + 1, v, A, h => by
    have ih := pinned_set (vs := vs) (As := As) (k := k) (v := v) (A := A) (by simpa using h)
    show pin x B :: (pinned vs As).set k (pin v A) = pin x B :: pinned vs (As.set k A)
    rw [ih]
theorem Cs.pinAll {G H : Hp} : ∀ {As : List OA} {vs : List V} {F : List Addr}, Cs G H (As.map some) (vs.map some) F → Cs G H ((pinned vs As).map some) (vs.map some) F
  | [], [], _, h => h
  | [], _ :: _, _, h => h.elim
  | _ :: _, [], _, h => h.elim
  | A :: As, x :: vs, F, h => by
    obtain ⟨v, F1, F2, e1, e2, a, c⟩ := h
    cases e1
    exact ⟨x, F1, F2, rfl, e2, ⟨rfl, a⟩, Cs.pinAll c⟩
theorem pins_eq {G H : Hp} {As : List OA} {us vs : List V} {F : List Addr} (c : Cs G H (As.map some) (us.map some) F) (hl : As.length = vs.length) (hp : ∀ (k : Nat) v, vs[k]? = some v → ∃ A, As[k]? = some (pin v A)) : us = vs := by
  have hu : us.length = As.length := by have := c.len; simpa using this.symm
  refine List.ext_getElem? fun k => ?_
  by_cases q : k < vs.length
  · obtain ⟨A, hA⟩ := hp k vs[k] (List.getElem?_eq_getElem q)
    obtain ⟨v, F1, F2, e1, e2, ⟨e3, _⟩, _⟩ := c.getP hA
    rw [e1, e3, List.getElem?_eq_getElem q]
  · rw [List.getElem?_eq_none (by omega), List.getElem?_eq_none (by omega)]
theorem wk_setn : ∀ (ρ : Cl) (j : Nat), Wk ρ (ρ.set j none)
  | [], _ => trivial
  | none :: ρ, 0 => Wk.refl ρ
  | some _ :: ρ, 0 => Wk.refl ρ
  | none :: ρ, j + 1 => wk_setn ρ j
  | some _ :: ρ, j + 1 => ⟨rfl, wk_setn ρ j⟩
section
variable {X : Cx} {α ω : Type} [Cd α] {sts rest body : List Stmt} {tg iter : Expr} {pos : Pos} {m : Option ω} {Φ : ω → Ent → Ends → Prop} {ρ ρ1 : Cl} {v0 : V} {vs : List V}
theorem xg_pinAll (i : Nat) {As : List OA} (h : ρ[i]? = some (some (pin v0 (aL As)))) (kk : ∀ vs : List V, vs.length = As.length → XG X sts (ρ.set i (some (pin v0 (aL (pinned vs As))))) m Φ) : XG X sts ρ m Φ := fun r hr E σ H D st q => by
  obtain ⟨G, F, f, c⟩ := st
  obtain ⟨F1, F2, e1, ⟨p, vs, F', e2, e3, h1, c1⟩, go⟩ := (Own.slot i h).get (T := []) (t := []) rfl c
  subst e2 e3
  obtain ⟨F5, a5, c5⟩ := go (.refl _) f.gh (fun b _ o q => q) (B := aL (pinned vs As)) (F1' := p :: F') ⟨p, vs, F', rfl, rfl, h1, c1.pinAll⟩
  exact kk vs (by have := c1.len; simpa using this.symm) r hr E σ H D ⟨G, F5, f.perm (e1.trans a5.symm), c5⟩ q
def PinsOk (v0 : V) (vs : List V) (L : Cl) : Prop := ∃ As w, Own L v0 (aL As) w ∧ As.length = vs.length ∧ ∀ (k : Nat) v, vs[k]? = some v → ∃ A, As[k]? = some (pin v A)
theorem xi_pins (h : XE X iter ρ ρ1 (aV v0)) (hi : PinsOk v0 vs ρ1) : XI X tg iter ρ ρ1 (PinsOk v0 vs) (List.zip (List.range vs.length) vs) (fun x => aV x.2) := fun E T t σ H l st R k => by
  have hlen : (List.zip (List.range vs.length) vs).length = vs.length := by rw [List.length_zip, List.length_range]; omega
  have rd : ∀ {E : Ent} {T : Cl} {t : L2.St} {L : Cl} {C : L2.St} {H : Hp}, T.length = t.length → PinsOk v0 vs L → ST E (T ++ L) (t ++ C) H → ∃ p G F, v0 = .ref p ∧ SqL X.K H p vs ∧ Frm E G H F ∧ Cs G H (T ++ L) (t ++ C) F := fun {E T t L C H} l hL st => by
    obtain ⟨G, F, f, c⟩ := st
    obtain ⟨As, w, O, hl, hp⟩ := hL
    obtain ⟨F1, F2, e1, ⟨p, us, F', e2, e3, h1, c1⟩, go⟩ := O.get l c
    have e := pins_eq c1 hl hp
    subst e
    exact ⟨p, G, F, e2, .inl (.inl h1), f, c⟩
  refine wI.of (pi_list peS) (h E T t σ H l st _ fun v H1 st1 => ?_)
  obtain ⟨G, F, Fv, f, cs, e0, _⟩ := ST.one st1
  have st2 : ST E (T ++ ρ1) (t ++ σ) H1 := ⟨G, F, f, cs⟩
  obtain ⟨p, G', F', e1, h1, _, _⟩ := rd l hi st2
  subst e0 e1
  refine ⟨p, rfl, ⟨_, h1⟩, k _ E _ (.refl _) st2 ⟨fun n hn T t L C H l ok st => ?_, fun T t L C H l ok st => ?_, fun n x v H H' hx T t L C l ok st y => ?_⟩⟩
  · obtain ⟨p', G2, F2, e1, h1, _, _⟩ := rd l ok st
    cases e1
    have hl : n < vs.length := by rw [hlen] at hn; exact hn
    exact ⟨vs, vs[n], h1, List.getElem?_eq_getElem hl⟩
  · obtain ⟨p', G2, F2, e1, h1, _, _⟩ := rd l ok st
    cases e1
    exact ⟨vs, h1, by rw [hlen]; exact Nat.le_refl _⟩
  · obtain ⟨p', G2, F2, e1, h1, f2, c2⟩ := rd l ok st
    cases e1
    obtain ⟨e1, e2⟩ := y
    have e3 := e2 vs h1
    obtain ⟨a, b⟩ := x
    rw [List.getElem?_zip_eq_some] at hx
    have e4 : v = b := Option.some.inj (e3.symm.trans hx.2)
    subst e1 e4
    exact ⟨G2, F2, f2, v, [], F2, rfl, rfl, ⟨rfl, rfl⟩, c2⟩
open Classical in
/-- for x in xs: x.append(y), and neither of them is looked at behind it -/
theorem xg_forApp (i j : Nat) {xss : List (List α)} {y : α} (hij : i ≠ j) (hi : ρ[i]? = some (some (pin v0 (aLO X.K xss)))) (hj : j < ρ.length) (hb : xss.length ≤ 400000 ∧ ∀ xs ∈ xss, xs.length ≤ 400000)
    (hn : ∀ (ρ' : Cl) (A : OA), ρ'[i]? = some (some (pin v0 A)) → XE X iter ρ' ρ' (aV v0)) (ht : ∀ (ρ' : Cl) (A : OA), j < ρ'.length → XP X tg A ρ' (ρ'.set j (some A)))
    (hx : ∀ (ρ' : Cl) (v : V) (xs : List α) (w : OA → Cl), Own ρ' v (aLD X.K (xs.map Cd.d)) w → ρ'[j]? = some (some (aV v)) → xs.length < 1000000 → XG X body ρ' (some ()) (oS fun _ : Unit => w (aLD X.K ((xs ++ [y]).map Cd.d))))
    (hp : PassesOwn (model X.prog X.w) X.A X.env X.xe) (hc : X.calm = true) (kk : XG X rest ((ρ.set j none).set i none) m Φ) (hs : ∀ x, foldedSetIterable iter X.env x = pure x := by intro _; rfl) :
    XG X (.For tg iter body [] pos :: rest) ρ m Φ := by
  have hil : i < ρ.length := lt_of_get hi
  refine xg_pinAll i hi fun vs hl => ?_
  have hl : vs.length = xss.length := by rw [hl, List.length_map]
  obtain ⟨el, hel⟩ : ∃ el : List α → OA, el = fun xs => aLD X.K (xs.map Cd.d) := ⟨_, rfl⟩
  rw [← hel]
  let P : List (List α) → OA := fun s => aL (pinned vs (s.map el))
  let R : Cl := ρ.set j none
  let N : List (List α) → Cl := fun s => R.set i (some (pin v0 (P s)))
  have hRl : R.length = ρ.length := List.length_set
  have hNi : ∀ s, (N s)[i]? = some (some (pin v0 (P s))) := fun s => List.getElem?_set_self (by rw [hRl]; exact hil)
  have hNj : ∀ s, (N s)[j]? = some none := fun s => by
    show (R.set i _)[j]? = _
    rw [List.getElem?_set_ne hij]
    exact List.getElem?_set_self hj
  have hNl : ∀ s, (N s).length = ρ.length := fun s => by show (R.set i _).length = _; rw [List.length_set, hRl]
  let f : List (List α) → Nat × V → Option (List (List α)) := fun s x => if vs[x.1]? = some x.2 ∧ s.length = vs.length ∧ (s.getD x.1 []).length < 1000000 then some (s.set x.1 (s.getD x.1 [] ++ [y])) else none
  have fold : ∀ (l : List (Nat × V)) (s : List (List α)) (b : Nat), (∀ p ∈ l, vs[p.1]? = some p.2) → s.length = vs.length → (∀ xs ∈ s, xs.length ≤ b) → b + l.length < 1000000 → ∃ s', l.foldlM f s = some s' := by
    intro l
    induction l with
    | nil => intro s b _ _ _ _; exact ⟨s, rfl⟩
    | cons p l ih =>
      intro s b h1 h2 h3 h4
      have hp := h1 p (by simp)
      have hk : p.1 < s.length := by rw [h2]; exact lt_of_get hp
      have hg : s.getD p.1 [] = s[p.1] := by rw [List.getD_eq_getElem?_getD, List.getElem?_eq_getElem hk]; rfl
      have hgl : (s.getD p.1 []).length ≤ b := by rw [hg]; exact h3 _ (List.getElem_mem hk)
      have h4' : b + (l.length + 1) < 1000000 := by simpa using h4
      have e : f s p = some (s.set p.1 (s.getD p.1 [] ++ [y])) := by
        show (if _ then _ else _) = _
        rw [if_pos ⟨hp, h2, by omega⟩]
      obtain ⟨s', e'⟩ := ih (s.set p.1 (s.getD p.1 [] ++ [y])) (b + 1) (fun q hq => h1 q (by simp [hq])) (by rw [List.length_set]; exact h2) (fun xs hxs => by
        rcases List.mem_or_eq_of_mem_set hxs with z | z
        · have := h3 xs z; omega
        · rw [z, List.length_append]; simp only [List.length_cons, List.length_nil]; omega) (by omega)
      exact ⟨s', by rw [List.foldlM_cons, e]; exact e'⟩
  have hmem : ∀ p ∈ List.zip (List.range vs.length) vs, vs[p.1]? = some p.2 := fun p hp => by
    obtain ⟨n, hn⟩ := List.mem_iff_getElem?.mp hp
    obtain ⟨a, b⟩ := p
    rw [List.getElem?_zip_eq_some] at hn
    have e := hn.1
    have hlt : n < vs.length := lt_of_get hn.2
    rw [List.getElem?_range hlt] at e
    have : n = a := Option.some.inj e
    subst this
    exact hn.2
  obtain ⟨s', hf⟩ := fold _ xss 400000 hmem hl.symm hb.2 (by rw [List.length_zip, List.length_range]; omega)
  have pok : ∀ s : List (List α), s.length = vs.length → ∀ {L : Cl}, L[i]? = some (some (pin v0 (P s))) → PinsOk v0 vs L := fun s hsl L h => ⟨_, _, Own.slot i h, by rw [pinned_len (by rw [List.length_map]; exact hsl.symm), List.length_map, hsl], fun k v hk => by
    have hks : k < s.length := by rw [hsl]; exact lt_of_get hk
    exact ⟨el s[k], pinned_at hk (by rw [List.getElem?_map, List.getElem?_eq_getElem hks]; rfl)⟩⟩
  -- the states with as many lists as there are values
  let N1 : {s : List (List α) // s.length = vs.length} → Cl := fun s => N s.1
  let f1 : {s : List (List α) // s.length = vs.length} → Nat × V → Option {s : List (List α) // s.length = vs.length} := fun s x => if vs[x.1]? = some x.2 ∧ (s.1.getD x.1 []).length < 1000000 then some ⟨s.1.set x.1 (s.1.getD x.1 [] ++ [y]), by rw [List.length_set]; exact s.2⟩ else none
  have fold1 : ∀ (l : List (Nat × V)) (s : {s : List (List α) // s.length = vs.length}) (r : List (List α)), l.foldlM f s.1 = some r → ∃ h, l.foldlM f1 s = some ⟨r, h⟩ := by
    intro l
    induction l with
    | nil =>
      intro s r h
      have h : some s.1 = some r := h
      cases h
      exact ⟨s.2, rfl⟩
    | cons p l ih =>
      intro s r h
      rw [List.foldlM_cons] at h
      by_cases c : vs[p.1]? = some p.2 ∧ (s.1.getD p.1 []).length < 1000000
      · have e : f s.1 p = some (s.1.set p.1 (s.1.getD p.1 [] ++ [y])) := by
          show (if _ then _ else _) = _
          rw [if_pos ⟨c.1, s.2, c.2⟩]
        have e1 : f1 s p = some ⟨s.1.set p.1 (s.1.getD p.1 [] ++ [y]), by rw [List.length_set]; exact s.2⟩ := by
          show (if _ then _ else _) = _
          rw [if_pos c]
        rw [e] at h
        obtain ⟨hh, e2⟩ := ih ⟨s.1.set p.1 (s.1.getD p.1 [] ++ [y]), by rw [List.length_set]; exact s.2⟩ r h
        exact ⟨hh, by rw [List.foldlM_cons, e1]; exact e2⟩
      · have e : f s.1 p = none := by
          show (if _ then _ else _) = _
          rw [if_neg fun z => c ⟨z.1, z.2.2⟩]
        rw [e] at h
        cases h
  obtain ⟨hh, hf1⟩ := fold1 _ ⟨xss, hl.symm⟩ s' hf
  have em : m = ((List.zip (List.range vs.length) vs).foldlM f1 ⟨xss, hl.symm⟩).bind fun _ => m := by rw [hf1]; rfl
  rw [em]
  have hcomm : (ρ.set i (some (pin v0 (P xss)))).set j none = N xss := by
    show _ = (ρ.set j none).set i _
    rw [List.set_comm _ _ hij]
  refine xg_for (N := N1) (In := fun x s => (N s.1).set j (some (aV x.2))) hp hc (xi_pins (hn _ (P xss) (List.getElem?_set_self hil)) (pok xss hl.symm (List.getElem?_set_self hil))) ?_ (fun s => pok s.1 s.2 (hNi s.1)) (fun x s => ht _ _ (by show j < (N s.1).length; rw [hNl]; exact hj)) (fun x s => ?_) (fun s => ?_) hs
  · show Wk _ (N xss)
    rw [← hcomm]
    exact wk_setn _ _
  · by_cases c : vs[x.1]? = some x.2 ∧ (s.1.getD x.1 []).length < 1000000
    · have e1 : f1 s x = some ⟨s.1.set x.1 (s.1.getD x.1 [] ++ [y]), by rw [List.length_set]; exact s.2⟩ := by
        show (if _ then _ else _) = _
        rw [if_pos c]
      rw [e1]
      have hk : x.1 < s.1.length := by rw [s.2]; exact lt_of_get c.1
      have hg : s.1.getD x.1 [] = s.1[x.1] := by rw [List.getD_eq_getElem?_getD, List.getElem?_eq_getElem hk]; rfl
      have hIi : ((N s.1).set j (some (aV x.2)))[i]? = some (some (pin v0 (P s.1))) := by rw [List.getElem?_set_ne (Ne.symm hij)]; exact hNi s.1
      have hIj : ((N s.1).set j (some (aV x.2)))[j]? = some (some (aV x.2)) := List.getElem?_set_self (by rw [hNl]; exact hj)
      have hat : (pinned vs (s.1.map el))[x.1]? = some (pin x.2 (aLD X.K ((s.1.getD x.1 []).map Cd.d))) := pinned_at c.1 (by rw [List.getElem?_map, List.getElem?_eq_getElem hk, hg, hel]; rfl)
      have q := hx _ x.2 (s.1.getD x.1 []) _ (Own.itm (Own.slot i hIi) x.1 hat) hIj c.2
      intro o ho E σ H D st qq
      cases ho
      refine q () rfl E σ H D st fun σ' H' st' => qq σ' H' (st'.wk ?_)
      have es : pinned vs ((s.1.set x.1 (s.1.getD x.1 [] ++ [y])).map el) = (pinned vs (s.1.map el)).set x.1 (pin x.2 (aLD X.K ((s.1.getD x.1 [] ++ [y]).map Cd.d))) := by
        rw [List.map_set, hel, ← pinned_set c.1]
      show Wk (((N s.1).set j (some (aV x.2))).set i (some (pin v0 (aL ((pinned vs (s.1.map el)).set x.1 (pin x.2 (aLD X.K ((s.1.getD x.1 [] ++ [y]).map Cd.d)))))))) (N (s.1.set x.1 (s.1.getD x.1 [] ++ [y])))
      rw [← es]
      have e2 : ((N s.1).set j (some (aV x.2))).set i (some (pin v0 (P (s.1.set x.1 (s.1.getD x.1 [] ++ [y]))))) = (N (s.1.set x.1 (s.1.getD x.1 [] ++ [y]))).set j (some (aV x.2)) := by
        show ((R.set i _).set j _).set i _ = (R.set i _).set j _
        rw [List.set_comm _ _ (Ne.symm hij), set_set]
      show Wk (((N s.1).set j (some (aV x.2))).set i (some (pin v0 (P (s.1.set x.1 (s.1.getD x.1 [] ++ [y])))))) _
      rw [e2]
      have e3 : N (s.1.set x.1 (s.1.getD x.1 [] ++ [y])) = ((N (s.1.set x.1 (s.1.getD x.1 [] ++ [y]))).set j (some (aV x.2))).set j none := by rw [set_set, set_get (hNj _)]
      conv => rhs; rw [e3]
      exact wk_setn _ _
    · have e1 : f1 s x = none := by
        show (if _ then _ else _) = _
        rw [if_neg c]
      rw [e1]
      intro o ho
      cases ho
  · intro o ho E σ H D st qq
    refine kk o ho E σ H D (st.wk ?_) qq
    show Wk (R.set i _) (R.set i none)
    have e : R.set i none = (R.set i (some (pin v0 (P s.1)))).set i none := by rw [set_set]
    rw [e]
    exact wk_setn _ _
end
end Mr

set_option Elab.async false
set_option linter.all false
set_option maxRecDepth 100000
/-! things made of things: places at any depth, named values there, things handed over; calls that borrow from places -/
namespace Mr
open PySem PySem.Spec PyProof.Rows L2
structure Ctn (c : List OA → OA) : Prop where
  kid : ∀ {G H : Hp} {v : V} {F : List Addr} {As : List OA} {k : Nat} {A : OA}, (c As).P G H v F → As[k]? = some A →
    ∃ u F1 F2, F.Perm (F1 ++ F2) ∧ A.P G H u F1 ∧ ∀ {G' H' : Hp} {F1' : List Addr} {B : OA}, Ex G G' → Ex G' H' → (∀ b ∈ F2, ∀ o, H b = some o → H' b = some o) → B.P G' H' u F1' → ∃ F', F'.Perm (F1' ++ F2) ∧ (c (As.set k B)).P G' H' v F'
  imp : ∀ {As Bs : List OA}, ImpL As Bs → Imp (c As) (c Bs)
theorem cs_kid {G H : Hp} {As : List OA} {vs : List V} {F' : List Addr} {k : Nat} {A : OA} (c1 : Cs G H (As.map some) (vs.map some) F') (hk : As[k]? = some A) :
    ∃ u F1 F2, F'.Perm (F1 ++ F2) ∧ A.P G H u F1 ∧ ∀ {G' H' : Hp} {F1' : List Addr} {B : OA}, Ex G G' → Ex G' H' → (∀ b ∈ F2, ∀ o, H b = some o → H' b = some o) → B.P G' H' u F1' → ∃ F3, F3.Perm (F1' ++ F2) ∧ Cs G' H' ((As.set k B).map some) (vs.map some) F3 := by
  obtain ⟨u, Fa, Fb, ev, e4, q, c2⟩ := c1.getP hk
  refine ⟨u, Fa, Fb, e4, q, fun {G' H' F1' B} e e' kp pB => ?_⟩
  have c3 := c2.mono e e' kp
  obtain ⟨F3, a3, c4⟩ := c3.join (A := B) (v := u) (F1 := F1') (by rw [List.length_map]; exact lt_of_get hk) pB
  have e6 : (vs.map some).set k (some u) = vs.map some := set_get (by rw [List.getElem?_map, ev]; rfl)
  rw [e6] at c4
  exact ⟨F3, a3, by simpa [List.map_set] using c4⟩
theorem ctnO {C : Addr} {ns : List Str} : Ctn (aObj C ns) := ⟨fun {G H v F As k A} q hk => by
  obtain ⟨p, dx, vs, F', e2, e3, h1, hl, c1⟩ := q
  subst e2 e3
  obtain ⟨u, Fa, Fb, e4, qa, go⟩ := cs_kid c1 hk
  refine ⟨u, Fa, p :: Fb, (List.Perm.cons p e4).trans List.perm_middle.symm, qa, fun {G' H' F1' B} e e' kp pB => ?_⟩
  obtain ⟨F3, a3, c4⟩ := go e e' (fun b hb => kp b (List.mem_cons_of_mem _ hb)) pB
  exact ⟨p :: F3, (List.Perm.cons p a3).trans List.perm_middle.symm, p, dx, vs, F3, rfl, rfl, kp p (by simp) _ h1, hl, c4⟩, imp_obj⟩
theorem ctnL : Ctn aL := ⟨fun {G H v F As k A} q hk => by
  obtain ⟨p, vs, F', e2, e3, h1, c1⟩ := q
  subst e2 e3
  obtain ⟨u, Fa, Fb, e4, qa, go⟩ := cs_kid c1 hk
  refine ⟨u, Fa, p :: Fb, (List.Perm.cons p e4).trans List.perm_middle.symm, qa, fun {G' H' F1' B} e e' kp pB => ?_⟩
  obtain ⟨F3, a3, c4⟩ := go e e' (fun b hb => kp b (List.mem_cons_of_mem _ hb)) pB
  exact ⟨p :: F3, (List.Perm.cons p a3).trans List.perm_middle.symm, p, vs, F3, rfl, rfl, kp p (by simp) _ h1, c4⟩, imp_lst⟩
theorem ctnT : Ctn aT := ⟨fun {G H v F As k A} q hk => by
  obtain ⟨p, vs, F', e2, e3, h1, c1⟩ := q
  subst e2 e3
  obtain ⟨u, Fa, Fb, e4, qa, go⟩ := cs_kid c1 hk
  refine ⟨u, Fa, p :: Fb, (List.Perm.cons p e4).trans List.perm_middle.symm, qa, fun {G' H' F1' B} e e' kp pB => ?_⟩
  obtain ⟨F3, a3, c4⟩ := go e e' (fun b hb => kp b (List.mem_cons_of_mem _ hb)) pB
  exact ⟨p :: F3, (List.Perm.cons p a3).trans List.perm_middle.symm, p, vs, F3, rfl, rfl, kp p (by simp) _ h1, c4⟩, imp_tup⟩
theorem Own.kid {ρ : Cl} {a0 v0 : V} {A : OA} {c : List OA → OA} {As : List OA} {w : OA → Cl} (hc : Ctn c) (O : Own ρ a0 (c As) w) (k : Nat) (hk : As[k]? = some (pin v0 A)) : Own ρ v0 A (fun B => w (c (As.set k (pin v0 B)))) := ⟨fun {G H T t σ F} l cs => by
  obtain ⟨F1, F2, e1, q, go⟩ := O.get l cs
  obtain ⟨u, Fa, Fb, e4, ⟨e5, qa⟩, back⟩ := hc.kid q hk
  subst e5
  refine ⟨Fa, Fb ++ F2, e1.trans (by rw [← List.append_assoc]; exact List.Perm.append_right F2 e4), qa, fun {G' H' Fa' B} e e' kp pB => ?_⟩
  obtain ⟨F5, a5, q5⟩ := back e e' (fun b hb => kp b (List.mem_append_left _ hb)) (B := pin u B) (F1' := Fa') ⟨rfl, pB⟩
  obtain ⟨F6, a6, c6⟩ := go e e' (fun b hb => kp b (List.mem_append_right _ hb)) q5
  exact ⟨F6, a6.trans (by rw [← List.append_assoc]; exact List.Perm.append_right F2 a5), c6⟩⟩
/-- one item of many, in focus -/
theorem Own.foc {ρ : Cl} {a0 v0 : V} {A : OA} {c : List OA → OA} {As : List OA} {w : OA → Cl} {j : Nat} (hc : Ctn c) (O : Own ρ a0 (c (As.set j (pin v0 A))) w) (hj : j < As.length) : Own ρ v0 A (fun B => w (c (As.set j (pin v0 B)))) := by
  have q := Own.kid hc O j (List.getElem?_set_self hj)
  have e : (fun B => w (c ((As.set j (pin v0 A)).set j (pin v0 B)))) = fun B => w (c (As.set j (pin v0 B))) := by
    funext B
    rw [set_set]
  rw [e] at q
  exact q
theorem lt_mapd {α β : Type} {f : α → β} {xs : List α} {j : Nat} {x : α} (h : xs[j]? = some x) : j < (xs.map f).length := by
  rw [List.length_map]
  exact lt_of_get h
theorem map_at {α β : Type} {f : α → β} {xs : List α} {j : Nat} {x : α} (h : xs[j]? = some x) : (xs.map f)[j]? = some (f x) := by
  rw [List.getElem?_map, h]
  rfl
theorem ImpL.refl : ∀ As : List OA, ImpL As As
  | [] => .nil
  | A :: As => .cons imp_rfl (ImpL.refl As)
theorem ImpL.set : ∀ {As : List OA} {j : Nat} {A B : OA}, Imp A B → ImpL (As.set j A) (As.set j B)
  | [], _, _, _, _ => .nil
  | _ :: As, 0, _, _, h => .cons h (ImpL.refl As)
  | _ :: As, j + 1, _, _, h => .cons imp_rfl (ImpL.set h)
theorem imp_trans {A B C : OA} (h : Imp A B) (k : Imp B C) : Imp A C := fun q => k (h q)
theorem imp_pinned {A B : OA} {v0 : V} (h : Imp A B) : Imp (pin v0 A) B := fun q => h q.2
/-- the focus is left -/
theorem imp_foc {α : Type} {f : α → OA} {xs : List α} {j : Nat} {y : α} {A : OA} {c : List OA → OA} (hc : Ctn c) (h : Imp A (f y)) : Imp (c ((xs.map f).set j A)) (c ((xs.set j y).map f)) := by
  rw [List.map_set]
  exact hc.imp (ImpL.set h)
theorem imp_foc0 {α : Type} {f : α → OA} {xs : List α} {j : Nat} {x : α} {A : OA} {c : List OA → OA} (hc : Ctn c) (hx : xs[j]? = some x) (h : Imp A (f x)) : Imp (c ((xs.map f).set j A)) (c (xs.map f)) := by
  have e : xs.set j x = xs := set_get hx
  intro G H v F q
  have q2 : (c ((xs.set j x).map f)).P G H v F := imp_foc hc h q
  rwa [e] at q2
section
variable {X : Cx} {ω : Type} {sts : List Stmt} {m : Option ω} {Φ : ω → Ent → Ends → Prop} {ρ ρ1 ρ2 : Cl} {A A0 B : OA} {a b e o : Expr} {es : List Expr} {pos p apos : Pos} {As Bs : List OA} {u v v0 a0 : V} {c : List OA → OA} {w : OA → Cl}
theorem st_pinC {E : Ent} {T : Cl} {t σ : L2.St} {H : Hp} (l : T.length = t.length) (st : ST E (T ++ ρ) (t ++ σ) H) (hc : Ctn c) (O : Own ρ a0 (c As) w) {k : Nat} (hk : As[k]? = some A) : ∃ v, ST E (T ++ w (c (As.set k (pin v A)))) (t ++ σ) H := by
  obtain ⟨G, F, f, cs⟩ := st
  obtain ⟨F1, F2, e1, q1, go⟩ := O.get l cs
  obtain ⟨u, Fa, Fb, e4, qa, back⟩ := hc.kid q1 hk
  obtain ⟨F5, a5, q5⟩ := back (.refl _) f.gh (fun b _ o q => q) (B := pin u A) (F1' := Fa) ⟨rfl, qa⟩
  obtain ⟨F6, a6, c6⟩ := go (.refl _) f.gh (fun b _ o q => q) q5
  exact ⟨u, G, F6, f.perm (e1.trans ((List.Perm.append_right F2 (e4.trans a5.symm)).trans a6.symm)), c6⟩
/-- a part's value gets a name -/
theorem xg_pinC (hc : Ctn c) (O : Own ρ a0 (c As) w) (k : Nat) (hk : As[k]? = some A) (kk : ∀ v, XG X sts (w (c (As.set k (pin v A)))) m Φ) : XG X sts ρ m Φ := fun r hr E σ H D st q => by
  obtain ⟨v, st2⟩ := st_pinC (T := []) (t := []) rfl st hc O hk
  exact kk v r hr E σ H D st2 q
theorem xtm_pinC {e : Expr} {m : Option Bool} (hc : Ctn c) (O : Own ρ a0 (c As) w) (k : Nat) (hk : As[k]? = some A) (wk : Imp (c (As.set k (pin v A))) (c As) → True) (kk : ∀ v, ∀ b, m = some b → ∀ (E : Ent) (T : Cl) (t σ : L2.St) (H : Hp), T.length = t.length → ST E (T ++ w (c (As.set k (pin v A)))) (t ++ σ) H → ∀ Q : Bool → Hp → Prop, (∀ H', ST E (T ++ ρ) (t ++ σ) H' → Q b H') → wT X e σ H Q) : XTm X e ρ m := fun b hb E T t σ H l st Q q => by
  obtain ⟨v, st2⟩ := st_pinC l st hc O hk
  exact kk v b hb E T t σ H l st2 Q q
theorem xe_pinC {ρ' : Cl} (hc : Ctn c) (O : Own ρ a0 (c As) w) (k : Nat) (hk : As[k]? = some A) (kk : ∀ v, XE X e (w (c (As.set k (pin v A)))) ρ' B) : XE X e ρ ρ' B := fun E T t σ H l st Q q => by
  obtain ⟨v, st2⟩ := st_pinC l st hc O hk
  exact kk v E T t σ H l st2 Q q
theorem xem_pinC {N : ω → Cl} {R : ω → OA} (hc : Ctn c) (O : Own ρ a0 (c As) w) (k : Nat) (hk : As[k]? = some A) (kk : ∀ v, XEm X e (w (c (As.set k (pin v A)))) m N R) : XEm X e ρ m N R := fun o ho => xe_pinC hc O k hk fun v => kk v o ho
/-- what stands at the place is taken out of it -/
theorem xe_own (he : XE X e ρ ρ1 (aV u)) (O : Own ρ1 u B w) : XE X e ρ (w aN) B := fun E T t σ H l st Q k => he E T t σ H l st Q fun v H' st1 => k v H' (by
  obtain ⟨G, F, Fv, f, cs, e0, _⟩ := ST.one st1
  subst e0
  obtain ⟨F1, F2, e1, q1, go⟩ := O.get l cs
  obtain ⟨F3, a3, c3⟩ := go (.refl _) f.gh (fun b _ o q => q) (B := aN) (F1' := []) rfl
  exact ⟨G, F1 ++ F3, f.perm (e1.trans (List.Perm.append_left F1 (by simpa using a3.symm))), v, F1, F3, rfl, rfl, q1, c3⟩)
theorem xe_wk (he : XE X e ρ ρ1 A) (h : Wk ρ1 ρ2) : XE X e ρ ρ2 A := fun E T t σ H l st Q k => he E T t σ H l st Q fun v H' st1 => k v H' (ST.wkT (T := some A :: T) (t := some v :: t) (by simp [l]) st1 h)
theorem xe_impV (he : XE X e ρ ρ1 A) (h : Imp A B) : XE X e ρ ρ1 B := fun E T t σ H l st Q k => he E T t σ H l st Q fun v H' st1 => k v H' (by
  obtain ⟨G, F, f, x, F1, F2, e1, e2, q, c⟩ := st1
  exact ⟨G, F, f, x, F1, F2, e1, e2, h q, c⟩)
/-- a name that hands its thing over and goes on to name it -/
theorem xe_nmShare (i : Nat) {x : Str} (h : ρ[i]? = some (some (pin v0 A))) (hN : X.N[i]? = some x := by rfl) (hv : Vis X.env.scope x := by first | exact Or.inl rfl | exact Or.inr (Or.inl rfl) | exact Or.inr (Or.inr rfl)) (hd : (x == ("__debug__" : Str)) = false := by decide)
    (hcd : (x == ("__classdict__" : Str)) = false := by decide) : XE X (.Name x pos) ρ (ρ.set i (some (aV v0))) (pin v0 A) := fun E T t σ H l st Q k => by
  obtain ⟨G, F, f, cs⟩ := st
  obtain ⟨v, F1, F2, e1, e2, ⟨e0, q⟩, c2⟩ := cs.slot l h
  subst e0
  obtain ⟨F3, a3, c3⟩ := c2.back (A := aV v) (F1 := []) l (lt_of_get h) e1 ⟨rfl, rfl⟩
  exact wE.of (pe_var hN hv hd hcd) ⟨v, e1, k v H ⟨G, F1 ++ F3, f.perm (e2.trans (List.Perm.append_left F1 (by simpa using a3.symm))), v, F1, F3, rfl, rfl, ⟨rfl, q⟩, c3⟩⟩
/-! items at places -/
theorem xe_itV {j : Nat} {n : Int} (ha : XE X a ρ ρ1 (aV v0)) (hb : XE X b ρ1 ρ2 (aD X.K (.int n))) (O : Own ρ2 v0 (aL As) w) (hn : ixN As.length n = some j) (h : As[j]? = some (pin u A)) (hs : PlainIx b := by exact fun _ _ => rfl) :
    XE X (.Subscript a b pos) ρ ρ2 (aV u) := fun E T t σ H l st Q k =>
  wE.of (pe_ix ix_seq peS peS hs) (ha E T t σ H l st _ fun x H1 st1 => hb E (_ :: T) (_ :: t) σ H1 (by simp [l]) st1 _ fun y H2 st2 => by
    obtain ⟨G, F, Fv, Fw, f, cs, ⟨q1, _⟩, q2, _⟩ := ST.two st2
    cases q2
    obtain ⟨F1, F2, e1, ⟨p, vs, F', e4, e5, h1, c1⟩, go⟩ := O.get l cs
    subst q1 e4
    obtain ⟨w', Fa, Fb, hw, _, ⟨e7, _⟩, _⟩ := c1.getP h
    subst e7
    have hl : vs.length = As.length := by simpa using c1.len.symm
    exact .inl ⟨p, vs, n, w', rfl, rfl, .inl (.inl h1), by unfold atI; rw [hl, hn]; exact hw, k w' H2 ⟨G, F, f, w', [], F, rfl, rfl, ⟨rfl, rfl⟩, cs⟩⟩)
theorem xe_itT {j : Nat} {n : Int} (ha : XE X a ρ ρ1 (aV v0)) (hb : XE X b ρ1 ρ2 (aD X.K (.int n))) (O : Own ρ2 v0 (aT As) w) (hn : ixN As.length n = some j) (h : As[j]? = some (pin u A)) (hs : PlainIx b := by exact fun _ _ => rfl) :
    XE X (.Subscript a b pos) ρ ρ2 (aV u) := fun E T t σ H l st Q k =>
  wE.of (pe_ix ix_tup peS peS hs) (ha E T t σ H l st _ fun x H1 st1 => hb E (_ :: T) (_ :: t) σ H1 (by simp [l]) st1 _ fun y H2 st2 => by
    obtain ⟨G, F, Fv, Fw, f, cs, ⟨q1, _⟩, q2, _⟩ := ST.two st2
    cases q2
    obtain ⟨F1, F2, e1, ⟨p, vs, F', e4, e5, h1, c1⟩, go⟩ := O.get l cs
    subst q1 e4
    obtain ⟨w', Fa, Fb, hw, _, ⟨e7, _⟩, _⟩ := c1.getP h
    subst e7
    have hl : vs.length = As.length := by simpa using c1.len.symm
    exact ⟨p, vs, n, w', rfl, rfl, SqT.of h1, by unfold atI; rw [hl, hn]; exact hw, k w' H2 ⟨G, F, f, w', [], F, rfl, rfl, ⟨rfl, rfl⟩, cs⟩⟩)
end
/-! ### calls that borrow from places -/
/-- arguments, some of which are lent from places: (the argument, its value) -/
def XX (X : Cx) (es : List Expr) (ρ ρ' : Cl) (As : List OA) (ls : List (Nat × V)) : Prop := ∀ (E : Ent) (T : Cl) (t σ : L2.St) (H : Hp), T.length = t.length → ST E (T ++ ρ) (t ++ σ) H →
  ∀ Q : List V → Hp → Prop, (∀ vs H', vs.length = As.length → (∀ p ∈ ls, vs[p.1]? = some p.2) → ST E (As.map some ++ (T ++ ρ')) (vs.map some ++ (t ++ σ)) H' → Q vs H') → wA X es σ H Q
/-- what is lent comes back -/
inductive Fill (ls : List (Nat × V)) : Cl → Cl → Cl → Prop
  | nil {P ρ : Cl} : Fill ls P ρ ρ
  | cons {P ρ ρo : Cl} {v : V} {B : OA} {w : OA → Cl} (j : Nat) (hm : (j, v) ∈ ls) (hP : P[j]? = some (some B)) (O : Own ρ v aN w) (k : Fill ls (P.set j none) (w B) ρo) : Fill ls P ρ ρo
theorem cs_fill {G H : Hp} {T : Cl} {t σ : L2.St} {vs : List V} {ls : List (Nat × V)} (l : T.length = t.length) (hv : ∀ p ∈ ls, vs[p.1]? = some p.2) (ex : Ex G H) : ∀ {P ρ ρo : Cl} {F : List Addr}, Fill ls P ρ ρo → P.length = vs.length →
    Cs G H (P ++ (T ++ ρ)) (vs.map some ++ (t ++ σ)) F → ∃ F1 F2, F.Perm (F1 ++ F2) ∧ Cs G H (T ++ ρo) (t ++ σ) F1 := fun {P ρ ρo F} fl => by
  induction fl generalizing F with
  | nil =>
    intro hl c
    obtain ⟨F1, F2, e1, c1, c2⟩ := c.unappend (by simp [hl])
    subst e1
    exact ⟨F2, F1, List.perm_append_comm, c2⟩
  | @cons P ρ ρo v B w j hm hP O k ih =>
    intro hl c
    have lj : j < P.length := lt_of_get hP
    have h1 := hv _ hm
    obtain ⟨u, F1, F2, e1, e2, q, c1⟩ := c.split (i := j) (A := B) (by rw [List.getElem?_append_left lj, hP])
    rw [List.set_append_left _ _ lj] at c1
    have eu : u = v := by
      rw [List.getElem?_append_left (by simp; omega), List.getElem?_map, h1] at e1
      cases e1; rfl
    subst eu
    have c2 : Cs G H ((P.set j none ++ T) ++ ρ) ((vs.map some ++ t) ++ σ) F2 := by simpa using c1
    obtain ⟨Fo, Fr, e3, eo, go⟩ := O.get (by simp [l, hl]) c2
    have eo : Fo = [] := eo
    subst eo
    obtain ⟨F3, e4, c3⟩ := go (.refl _) ex (fun b _ o q => q) q
    obtain ⟨F4, F5, e5, c4⟩ := ih (by simpa using hl) (F := F3) (by simpa using c3)
    exact ⟨F4, F5, (e2.trans ((List.Perm.append_left F1 (by simpa using e3)).trans e4.symm)).trans e5, c4⟩
section
variable {X : Cx} {ρ ρ1 ρ2 ρ3 : Cl} {a b e o : Expr} {es : List Expr} {pos p apos : Pos} {A A0 B : OA} {As As0 : List OA} {ls ls' : List (Nat × V)} {δ γ : Type} {pre : δ → List OA} {m : δ → Option γ} {post : δ → γ → Cl} {ret : δ → γ → OA} {a0 : V} {w w0 : OA → Cl} {C : Addr} {ns : List Str} {x : Str} {xx : δ} {r : γ}
theorem xx_of (h : XA X es ρ ρ1 As) : XX X es ρ ρ1 As [] := fun E T t σ H l st Q k => h E T t σ H l st Q fun vs H' hl st' => k vs H' hl (fun _ hp => by simp at hp) st'
theorem xx_lend {As' : List OA} (j : Nat) {v0 : V} (h : XX X es ρ ρ1 As ls) (hj : As[j]? = some (aV v0)) (O : Own ρ1 v0 A w) (h2 : As.set j A = As' := by rfl) : XX X es ρ (w aN) As' ((j, v0) :: ls) := fun E T t σ H l st Q k => h E T t σ H l st Q fun vs H' hl hls st' => by
  subst h2
  obtain ⟨G, F, f, c⟩ := st'
  have lj : j < As.length := lt_of_get hj
  obtain ⟨v, F1, F2, e1, e2, ⟨e3, e4⟩, c1⟩ := c.split (i := j) (A := aV v0) (by rw [List.getElem?_append_left (by simpa using lj), List.getElem?_map, hj]; rfl)
  subst e3 e4
  have hv : vs[j]? = some v := by
    rw [List.getElem?_append_left (by simp [hl, lj]), List.getElem?_map] at e1
    cases q : vs[j]? with
    | none => rw [q] at e1; cases e1
    | some u => rw [q] at e1; cases e1; rfl
  rw [List.set_append_left _ _ (by simpa using lj)] at c1
  have c2 : Cs G H' (((As.map some).set j none ++ T) ++ ρ1) ((vs.map some ++ t) ++ σ) F2 := by simpa using c1
  obtain ⟨Fo, Fr, e5, qo, go⟩ := O.get (by simp [l, hl]) c2
  obtain ⟨F3, e6, c3⟩ := go (.refl _) f.gh (fun b _ o q => q) (B := aN) (F1' := []) rfl
  have c4 : Cs G H' ((As.map some ++ (T ++ w aN)).set j none) (vs.map some ++ (t ++ σ)) F3 := by
    rw [List.set_append_left _ _ (by simpa using lj)]
    simpa using c3
  obtain ⟨F5, e8, c5⟩ := c4.join (by simp; omega) qo
  have e9 : (vs.map some ++ (t ++ σ)).set j (some v) = vs.map some ++ (t ++ σ) := set_get (by rw [List.getElem?_append_left (by simp [hl, lj]), List.getElem?_map, hv]; rfl)
  rw [List.set_append_left _ _ (by simpa using lj), e9] at c5
  refine k vs H' (by simp [hl]) (fun p hp => ?_) ⟨G, F5, f.perm ?_, by simpa [List.map_set] using c5⟩
  · rcases List.mem_cons.mp hp with hp | hp
    · subst hp; exact hv
    · exact hls p hp
  · have e2' : F.Perm F2 := by simpa using e2
    exact (e2'.trans (e5.trans (List.Perm.append_left Fo (by simpa using e6.symm)))).trans e8.symm
/-- .. told weaker -/
theorem xx_weak {As' : List OA} (j : Nat) (h : XX X es ρ ρ1 As ls) (hj : As[j]? = some A) (hi : Imp A B) (h2 : As.set j B = As' := by rfl) : XX X es ρ ρ1 As' ls := fun E T t σ H l st Q k => h E T t σ H l st Q fun vs H' hl hls st' => by
  subst h2
  obtain ⟨G, F, f, c⟩ := st'
  have lj : j < As.length := lt_of_get hj
  have q := Cs.weak (i := j) (A := A) (B := B) c (by rw [List.getElem?_append_left (by simpa using lj), List.getElem?_map, hj]; rfl) hi
  rw [List.set_append_left _ _ (by simpa using lj)] at q
  exact k vs H' (by simp [hl]) hls ⟨G, F, f, by simpa [List.map_set] using q⟩
/-- .. with its value -/
theorem xx_pin {As' : List OA} (j : Nat) {v0 : V} (h : XX X es ρ ρ1 As ls) (hj : As[j]? = some A) (hm : (j, v0) ∈ ls) (h2 : As.set j (pin v0 A) = As' := by rfl) : XX X es ρ ρ1 As' ls := fun E T t σ H l st Q k => h E T t σ H l st Q fun vs H' hl hls st' => by
  subst h2
  obtain ⟨G, F, f, c⟩ := st'
  have lj : j < As.length := lt_of_get hj
  obtain ⟨v, F1, F2, e1, e2, q, c1⟩ := c.split (i := j) (A := A) (by rw [List.getElem?_append_left (by simpa using lj), List.getElem?_map, hj]; rfl)
  have hv := hls _ hm
  have ev : v = v0 := by
    rw [List.getElem?_append_left (by simp [hl, lj]), List.getElem?_map, hv] at e1
    cases e1; rfl
  subst ev
  obtain ⟨F5, e8, c5⟩ := c1.join (A := pin v A) (v := v) (by simp; omega) ⟨rfl, q⟩
  have e9 : (vs.map some ++ (t ++ σ)).set j (some v) = vs.map some ++ (t ++ σ) := set_get e1
  rw [List.set_append_left _ _ (by simpa using lj), e9] at c5
  exact k vs H' (by simp [hl]) hls ⟨G, F5, f.perm (e2.trans e8.symm), by simpa [List.map_set] using c5⟩
/-- what a call's promise asks and gives -/
theorem fill_core {E : Ent} {T : Cl} {t σ : L2.St} {H : Hp} {vs : List V} {Q : VK} {XE' : XK} {ρo : Cl} (l : T.length = t.length) (hl : vs.length = As.length) (st : ST E (As.map some ++ (T ++ ρ1)) (vs.map some ++ (t ++ σ)) H) (hv : ∀ p ∈ ls, vs[p.1]? = some p.2)
    (hm : m xx = some r) (hpre : pre xx = As) (hP : (post xx r).length = As.length) (fl : Fill ls (post xx r) ρ1 ρo)
    (kk : ∀ v H', ST E (some (ret xx r) :: (T ++ ρo)) (some v :: (t ++ σ)) H' → Q v H') : SpM pre m post ret vs H Q XE' := by
  obtain ⟨G, F, f, c⟩ := st
  obtain ⟨F1, F2, e1, c1, c2⟩ := c.unappend (by simp [hl])
  subst e1
  refine ⟨xx, r, G, F1, hm, (f.less (List.sublist_append_left _ _)).start, by rw [hpre]; exact c1, by rw [hpre]; exact hl, fun v H2 st2 => kk v H2 ?_⟩
  obtain ⟨G2, F3, f3, w, F4, F5, e2, e3, q, c3⟩ := st2
  cases e2
  subst e3
  obtain ⟨f4, keep⟩ := f.step (Fa := F1) (Fr := F2) (.refl _) f3
  have c4 : Cs G2 H2 (T ++ ρ1) (t ++ σ) F2 := c2.mono f3.gg f3.gh keep
  have c5 := c3.append c4
  obtain ⟨F6, F7, e7, c6⟩ := cs_fill l hv f3.gh fl (hP.trans hl.symm) c5
  refine ⟨G2, F4 ++ F6, (f4.perm ?_).less (List.sublist_append_left _ F7), v, F4, F6, rfl, rfl, q, c6⟩
  rw [List.append_assoc, List.append_assoc]
  exact List.Perm.append_left F4 e7
/-- f(e, ..) -/
theorem xe_callX {k : Nat} {ρo : Cl} (Cc : Cal X.prog X.w X.K X.mg X.base k x (SpM pre m post ret)) (hr : Room k X.A) (hm : m xx = some r) (ha : XX X (e :: es) ρ ρ1 (pre xx) ls) (hP : (post xx r).length = (pre xx).length) (hA : ret xx r = A) (fl : Fill ls (post xx r) ρ1 ρo)
    (hg : Gl X x := by rfl) (hdb : (x == ("__debug__" : Str)) = false := by decide) (he : starEach (e :: es) X.env = (false, eval e X.env) :: starEach es X.env := by rfl) (hpl : (backTo pos (starEach es X.env)).any (·.1) = false := by rfl) :
    XE X (.Call (.Name x p) (e :: es) [] pos) ρ ρo A := fun E T t σ H l st Q kk => by
  subst hA
  obtain ⟨f, fd, ps, F, h1, h2, h3⟩ := Cc.ex
  refine wE.of (pe_call F hr hg h1 h2 h3 .nil pass0 paS hdb he hpl) (ha E T t σ H l st _ fun vs H' hl hv st' => ?_)
  rw [List.append_nil]
  exact fill_core l hl st' hv hm rfl hP fl kk
/-- the instance itself is lent, too -/
theorem self_lend {E : Ent} {T : Cl} {t σ : L2.St} {H : Hp} {vs : List V} (l : T.length = t.length) (hl : vs.length = As.length) (st : ST E (As.map some ++ (T ++ ρ1)) (vs.map some ++ (t ++ σ)) H) (O : Own ρ1 a0 A0 w) : ST E ((A0 :: As).map some ++ (T ++ w aN)) ((a0 :: vs).map some ++ (t ++ σ)) H := by
  obtain ⟨G, F, f, c⟩ := st
  have c2 : Cs G H ((As.map some ++ T) ++ ρ1) ((vs.map some ++ t) ++ σ) F := by simpa using c
  obtain ⟨Fo, Fr, e5, qo, go⟩ := O.get (by simp [l, hl]) c2
  obtain ⟨F3, e6, c3⟩ := go (.refl _) f.gh (fun b _ o q => q) (B := aN) (F1' := []) rfl
  exact ⟨G, Fo ++ F3, f.perm (e5.trans (List.Perm.append_left Fo (by simpa using e6.symm))), a0, Fo, F3, rfl, rfl, qo, by simpa using c3⟩
theorem self_ls {vs : List V} (hv : ∀ p ∈ ls, vs[p.1]? = some p.2) (h : ls' = (0, a0) :: ls.map fun p => (p.1 + 1, p.2)) : ∀ p ∈ ls', (a0 :: vs)[p.1]? = some p.2 := fun p hp => by
  subst h
  rcases List.mem_cons.mp hp with z | z
  · subst z; rfl
  · obtain ⟨q, hq, e⟩ := List.mem_map.mp z
    subst e
    exact hv q hq
/-- o.m(e, ..) -/
theorem xe_methX {k : Nat} {ρo : Cl} {pl : Sem Bool} (M : CalM X.prog X.w X.K X.mg X.base k C x (SpM pre m post ret)) (cl : Cls X.K C) (hn : x ∉ ns) (hr : Room k X.A) (hm : m xx = some r) (ho : XE X o ρ ρ (aV a0)) (O0 : Own ρ a0 (aObj C ns As0) w0) (ha : XX X (e :: es) ρ ρ1 As ls) (O : Own ρ1 a0 A0 w)
    (hpre : pre xx = A0 :: As) (hP : (post xx r).length = (A0 :: As).length) (hA : ret xx r = A) (hls : ls' = (0, a0) :: ls.map fun p => (p.1 + 1, p.2)) (fl : Fill ls' (post xx r) (w aN) ρo)
    (hst : starEach (e :: es) X.env = (false, eval e X.env) :: starEach es X.env := by rfl) (hpl : (backTo pos (starEach es X.env)).any (·.1) = false := by rfl)
    (ht : eval (.Call (.Attribute o x apos) (e :: es) [] pos) X.env = (do
      let ov ← eval o X.env
      standAt apos.atName
      let (f, first) ← holding [ov] (getMethod ov x pl)
      callWith pos f first (backTo pos (starEach (e :: es) X.env)) (backToKw pos (keywordEach [] X.env))) := by rfl) :
    XE X (.Call (.Attribute o x apos) (e :: es) [] pos) ρ ρo A := fun E T t σ H l st Q kk => by
  subst hA
  obtain ⟨f, fd, ps, F, h1, h2⟩ := M.ex
  refine wE.of (pe_meth (E := fun _ _ _ => False) peS cl h1 F hr h2 .nil pass0 paS hst hpl ht) (ho E T t σ H l st _ fun u H1 st1 => ?_)
  obtain ⟨G, Fa, Fv, fr, cs, e0, _⟩ := ST.one st1
  subst e0
  obtain ⟨F1, F2, e1, ⟨p, dx, vs, F', e2, e3, h3, hl, c1⟩, go⟩ := O0.get l cs
  refine ⟨p, dx, _, e2, h3, lookup_no hn, ha E T t σ H1 l (ST.pop st1) _ fun vs H2 hl hv st2 => ?_⟩
  rw [List.append_nil]
  exact fill_core (XE' := fun _ _ _ => False) l (by simp [hl]) (self_lend l hl st2 O) (self_ls hv hls) hm hpre hP fl kk
/-- o.m() -/
theorem xe_methX0 {k : Nat} {ρo : Cl} {pl : Sem Bool} (M : CalM X.prog X.w X.K X.mg X.base k C x (SpM pre m post ret)) (cl : Cls X.K C) (hn : x ∉ ns) (hr : Room k X.A) (hm : m xx = some r) (ho : XE X o ρ ρ (aV a0)) (O0 : Own ρ a0 (aObj C ns As0) w0) (O : Own ρ a0 A0 w)
    (hpre : pre xx = [A0]) (hP : (post xx r).length = 1) (hA : ret xx r = A) (fl : Fill [(0, a0)] (post xx r) (w aN) ρo)
    (ht : eval (.Call (.Attribute o x apos) [] [] pos) X.env = (do
      let ov ← eval o X.env
      standAt apos.atName
      let (f, first) ← holding [ov] (getMethod ov x pl)
      callWith pos f first (backTo pos (starEach [] X.env)) (backToKw pos (keywordEach [] X.env))) := by rfl) :
    XE X (.Call (.Attribute o x apos) [] [] pos) ρ ρo A := fun E T t σ H l st Q kk => by
  subst hA
  obtain ⟨f, fd, ps, F, h1, h2⟩ := M.ex
  refine wE.of (pe_meth0 (E := fun _ _ _ => False) peS cl h1 F hr h2 .nil pass0 ht) (ho E T t σ H l st _ fun u H1 st1 => ?_)
  obtain ⟨G, Fa, Fv, fr, cs, e0, _⟩ := ST.one st1
  subst e0
  obtain ⟨F1, F2, e1, ⟨p, dx, vs, F', e2, e3, h3, hl, c1⟩, go⟩ := O0.get l cs
  refine ⟨p, dx, _, e2, h3, lookup_no hn, ?_⟩
  exact fill_core (XE' := fun _ _ _ => False) (As := [A0]) (vs := [u]) l rfl (self_lend (As := []) (vs := []) l rfl (ST.pop st1) O) (fun p hp => by rw [List.mem_singleton.mp hp]; rfl) hm hpre hP fl kk
/-- X(e, ..) -/
theorem make_coreX {E : Ent} {T : Cl} {t σ : L2.St} {H : Hp} {vs : List V} {Q : VK} {XE' : XK} {z dx : Addr} {Po ρo : Cl} (l : T.length = t.length) (hl : vs.length = As.length) (st : ST E (As.map some ++ (T ++ ρ1)) (vs.map some ++ (t ++ σ)) H) (hv : ∀ p ∈ ls, vs[p.1]? = some p.2)
    (nz : H z = none) (ndx : H dx = none) (ne : dx ≠ z) (hm : m xx = some r) (hpre : pre xx = aObj C [] [] :: As) (hpost : post xx r = some B :: Po) (hret : ret xx r = aD X.K .none) (hP : Po.length = As.length) (fl : Fill ls Po ρ1 ρo)
    (kk : ∀ v H', ST E (some B :: (T ++ ρo)) (some v :: (t ++ σ)) H' → Q v H') : SpM pre m post ret (.ref z :: vs) (upd (upd H dx (.own z)) z (.ins C dx [])) (fun v H2 => v = .non ∧ Q (.ref z) H2) XE' := by
  obtain ⟨G, F, f, c⟩ := st
  have fm := Frm.made (o := .ins C dx []) (o' := .own z) f.gh nz ndx ne
  obtain ⟨f0, keep0⟩ := f.step (Fa := []) (Fr := F) (.refl _) fm
  have c0 := c.mono (.refl _) f0.gh keep0
  obtain ⟨F1, F2, e1, c1, c2⟩ := c0.unappend (by simp [hl])
  subst e1
  have f0 : Frm E G (upd (upd H dx (.own z)) z (.ins C dx [])) ((z :: F1) ++ F2) := f0
  refine ⟨xx, r, G, z :: F1, hm, (f0.less (List.sublist_append_left _ _)).start, ?_, by rw [hpre]; simp [hl], fun v H2 st2 => ?_⟩
  · rw [hpre]
    exact ⟨.ref z, [z], F1, rfl, rfl, ⟨z, dx, [], [], rfl, rfl, upd_same, rfl, rfl⟩, c1⟩
  · obtain ⟨G2, F3, f3, v', F4, F5, e3, e4, q, c3⟩ := st2
    cases e3
    subst e4
    rw [hret] at q
    obtain ⟨q, eq0⟩ := q
    cases q
    subst eq0
    refine ⟨rfl, kk _ _ ?_⟩
    rw [hpost] at c3
    obtain ⟨u, FB, FP, e5, e6, qB, c4⟩ := c3
    cases e5
    subst e6
    obtain ⟨f4, keep⟩ := f0.step (Fa := z :: F1) (Fr := F2) (.refl _) f3
    have c5 := c4.append (c2.mono f3.gg f3.gh keep)
    obtain ⟨F6, F7, e7, c6⟩ := cs_fill l hv f3.gh fl (hP.trans hl.symm) c5
    refine ⟨G2, FB ++ F6, ((show Frm E G2 H2 ((FB ++ FP) ++ F2) from f4).perm ?_).less (List.sublist_append_left _ F7), .ref z, FB, F6, rfl, rfl, qB, c6⟩
    rw [List.append_assoc, List.append_assoc]
    exact List.Perm.append_left FB e7
theorem xe_makeX {k : Nat} {Po ρo : Cl} (M : CalC X.prog X.w X.K X.mg X.base k C x (SpM pre m post ret)) (hr : Room (k + 1) X.A) (hm : m xx = some r) (ha : XX X (e :: es) ρ ρ1 As ls)
    (hpre : pre xx = aObj C [] [] :: As) (hpost : post xx r = some B :: Po) (hret : ret xx r = aD X.K .none) (hP : Po.length = As.length) (fl : Fill ls Po ρ1 ρo)
    (hg : Gl X x := by rfl) (hdb : (x == ("__debug__" : Str)) = false := by decide) (he : starEach (e :: es) X.env = (false, eval e X.env) :: starEach es X.env := by rfl) (hpl : (backTo pos (starEach es X.env)).any (·.1) = false := by rfl) :
    XE X (.Call (.Name x p) (e :: es) [] pos) ρ ρo B := fun E T t σ H l st Q kk => by
  obtain ⟨f, fd, ps, F, h1, h2, h3⟩ := M.ex
  refine wE.of (pe_make (E := fun _ _ _ => False) h2 F hr hg h1 h3 .nil pass0 paS hdb he hpl) (ha E T t σ H l st _ fun vs H' hl hv st' z dx nz ndx ne => ?_)
  rw [List.append_nil]
  exact make_coreX (X := X) (XE' := fun _ _ _ => False) l hl st' hv nz ndx ne hm hpre hpost hret hP fl kk
end
section
variable {X : Cx} {ρ ρ1 ρx : Cl} {e o : Expr} {es : List Expr} {pos p apos : Pos} {A A0 B : OA} {As As0 : List OA} {ls ls' : List (Nat × V)} {δ ζ : Type} {pre : δ → List OA} {mz : δ → Option ζ} {post : δ → ζ → Cl} {a0 : V} {w w0 : OA → Cl} {C : Addr} {ns : List Str} {x : Str} {xx : δ} {z : ζ} {W : WX} {cz : Value}
theorem fillZ_core {E : Ent} {σ : L2.St} {H : Hp} {vs : List V} {Q : VK} {XE' : XK} (hl : vs.length = As.length) (st : ST E (As.map some ++ ρ1) (vs.map some ++ σ) H) (hv : ∀ p ∈ ls, vs[p.1]? = some p.2)
    (hm : mz xx = some z) (hpre : pre xx = As) (hP : (post xx z).length = As.length) (fl : Fill ls (post xx z) ρ1 ρx) (kk : ∀ H', ST E ρx σ H' → XE' cz none H') : SpZ pre mz post cz vs H Q XE' := by
  obtain ⟨G, F, f, cs⟩ := st
  obtain ⟨F1, F2, e1, c1, c2⟩ := cs.unappend (by simp [hl])
  subst e1
  refine ⟨xx, z, G, F1, hm, (f.less (List.sublist_append_left _ _)).start, by rw [hpre]; exact c1, by rw [hpre]; exact hl, fun H2 st2 => kk H2 ?_⟩
  obtain ⟨G2, F3, f3, c3⟩ := st2
  obtain ⟨f4, keep⟩ := f.step (Fa := F1) (Fr := F2) (.refl _) f3
  have c5 := c3.append (c2.mono f3.gg f3.gh keep)
  obtain ⟨F6, F7, e7, c6⟩ := cs_fill (T := []) (t := []) rfl hv f3.gh fl (hP.trans hl.symm) c5
  exact ⟨G2, F6, (f4.perm e7).less (List.sublist_append_left _ _), c6⟩
/-- f(e, ..) raises -/
theorem xz_callX {k : Nat} (Q : CalZ X.prog X.w X.K X.mg X.base k x (SpZ pre mz post cz)) (tk : Takes X W) (hr : Room k X.A) (hm : mz xx = some z) (ha : XX X (e :: es) ρ ρ1 (pre xx) ls) (hP : (post xx z).length = (pre xx).length) (fl : Fill ls (post xx z) ρ1 ρx)
    (hg : Gl X x := by rfl) (hdb : (x == ("__debug__" : Str)) = false := by decide) (he : starEach (e :: es) X.env = (false, eval e X.env) :: starEach es X.env := by rfl) (hpl : (backTo pos (starEach es X.env)).any (·.1) = false := by rfl) :
    XZ X (.Call (.Name x p) (e :: es) [] pos) ρ ρx W cz := fun E σ H st kk Q' => by
  obtain ⟨f, fd, ps, F, h1, h2, h3⟩ := Q.ex
  refine wE.of (pe_callS (E := WE W) F hr hg h1 h2 h3 (passAt tk) paS hdb he hpl) (ha E [] [] σ H rfl st _ fun vs H' hl hv st' => ?_)
  exact fillZ_core hl st' hv hm rfl hP fl kk
/-- o.m(e, ..) raises -/
theorem xz_methX {k : Nat} {pl : Sem Bool} (M : CalMZ X.prog X.w X.K X.mg X.base k C x (SpZ pre mz post cz)) (tk : Takes X W) (cl : Cls X.K C) (hn : x ∉ ns) (hr : Room k X.A) (hm : mz xx = some z) (ho : XE X o ρ ρ (aV a0)) (O0 : Own ρ a0 (aObj C ns As0) w0) (ha : XX X (e :: es) ρ ρ1 As ls) (O : Own ρ1 a0 A0 w)
    (hpre : pre xx = A0 :: As) (hP : (post xx z).length = (A0 :: As).length) (hls : ls' = (0, a0) :: ls.map fun p => (p.1 + 1, p.2)) (fl : Fill ls' (post xx z) (w aN) ρx)
    (hst : starEach (e :: es) X.env = (false, eval e X.env) :: starEach es X.env := by rfl) (hpl : (backTo pos (starEach es X.env)).any (·.1) = false := by rfl)
    (ht : eval (.Call (.Attribute o x apos) (e :: es) [] pos) X.env = (do
      let ov ← eval o X.env
      standAt apos.atName
      let (f, first) ← holding [ov] (getMethod ov x pl)
      callWith pos f first (backTo pos (starEach (e :: es) X.env)) (backToKw pos (keywordEach [] X.env))) := by rfl) :
    XZ X (.Call (.Attribute o x apos) (e :: es) [] pos) ρ ρx W cz := fun E σ H st kk Q' => by
  obtain ⟨f, fd, ps, F, h1, h2⟩ := M.ex
  refine wE.of (pe_methS (E := WE W) peS cl h1 F hr h2 (passAt tk) paS hst hpl ht) (ho E [] [] σ H rfl st _ fun u H1 st1 => ?_)
  obtain ⟨G, Fa, Fv, fr, cs, e0, _⟩ := ST.one st1
  subst e0
  obtain ⟨F1, F2, e1, ⟨p, dx, vs, F', e2, e3, h3, hl, c1⟩, go⟩ := O0.get (T := []) (t := []) rfl cs
  refine ⟨p, dx, _, e2, h3, lookup_no hn, ha E [] [] σ H1 rfl (ST.pop st1) _ fun vs H2 hl hv st2 => ?_⟩
  rw [← e2]
  exact fillZ_core (As := A0 :: As) (vs := u :: vs) (by simp [hl]) (self_lend (T := []) (t := []) rfl hl st2 O) (self_ls hv hls) hm hpre hP fl kk
/-- C(e, ..) raises -/
theorem xz_makeX {k : Nat} {Po : Cl} (M : CalCZ X.prog X.w X.K X.mg X.base k C x (SpZ pre mz post cz)) (tk : Takes X W) (hr : Room (k + 1) X.A) (hm : mz xx = some z) (ha : XX X (e :: es) ρ ρ1 As ls)
    (hpre : pre xx = aObj C [] [] :: As) (hpost : post xx z = none :: Po) (hP : Po.length = As.length) (fl : Fill ls Po ρ1 ρx)
    (hg : Gl X x := by rfl) (hdb : (x == ("__debug__" : Str)) = false := by decide) (he : starEach (e :: es) X.env = (false, eval e X.env) :: starEach es X.env := by rfl) (hpl : (backTo pos (starEach es X.env)).any (·.1) = false := by rfl) :
    XZ X (.Call (.Name x p) (e :: es) [] pos) ρ ρx W cz := fun E σ H st kk Q' => by
  obtain ⟨f, fd, ps, F, h1, h2, h3⟩ := M.ex
  refine wE.of (pe_makeS (E := WE W) h2 F hr hg h1 h3 (passAt tk) paS hdb he hpl) (ha E [] [] σ H rfl st _ fun vs H1 hl hv st1 y dx ny ndx ne => ?_)
  obtain ⟨G, F, f, cs⟩ := st1
  have fm := Frm.made (o := .ins C dx []) (o' := .own y) f.gh ny ndx ne
  obtain ⟨f0, keep0⟩ := f.step (Fa := []) (Fr := F) (.refl _) fm
  have c0 := cs.mono (.refl _) f0.gh keep0
  obtain ⟨F1, F2, e1, c1, c2⟩ := c0.unappend (by simp [hl])
  subst e1
  have f0 : Frm E G (upd (upd H1 dx (.own y)) y (.ins C dx [])) ((y :: F1) ++ F2) := f0
  refine ⟨xx, z, G, y :: F1, hm, (f0.less (List.sublist_append_left _ _)).start, ?_, by rw [hpre]; simp [hl], fun H2 st2 => kk H2 ?_⟩
  · rw [hpre]
    exact ⟨.ref y, [y], F1, rfl, rfl, ⟨y, dx, [], [], rfl, rfl, upd_same, rfl, rfl⟩, c1⟩
  · obtain ⟨G2, F3, f3, c3⟩ := st2
    rw [hpost] at c3
    have c4 : Cs G2 H2 Po (vs.map some) F3 := c3
    obtain ⟨f4, keep⟩ := f0.step (Fa := y :: F1) (Fr := F2) (.refl _) f3
    have c5 := c4.append (c2.mono f3.gg f3.gh keep)
    obtain ⟨F6, F7, e7, c6⟩ := cs_fill (T := []) (t := []) rfl hv f3.gh fl (hP.trans hl.symm) c5
    exact ⟨G2, F6, (f4.perm e7).less (List.sublist_append_left _ _), c6⟩
end
end Mr

set_option Elab.async false
set_option linter.all false
set_option maxRecDepth 100000
/-! dicts with int keys that are walked (locked meanwhile); dict(pairs); lists of pairs (int, owned list) -/
namespace Mr
open PySem PySem.Spec PyProof.Rows L2
/-- a dict that is locked: by its object, what stands there -/
def aDL (K : PySem.W.Frag) (od : Obj) (ws : List (Key × V)) (kvs : List (Int × PyData)) : OA := ⟨fun G H v F => ∃ p, v = .ref p ∧ F = [p] ∧ H p = some (.frz od (.dK ws)) ∧ KvD K G ws kvs, fun h e _ k => by
  obtain ⟨p, e1, e2, h1, q⟩ := h
  subst e2
  exact ⟨p, e1, rfl, k p (by simp) _ h1, q.mono e⟩⟩
section
variable {X : Cx} {ρ ρ1 ρ2 ρ' : Cl} {a b e o iter tg : Expr} {pos p apos cpos : Pos} {v0 : V} {w : OA → Cl} {w2 : Obj → List (Key × V) → OA → Cl} {α : Type} [Cd α] {kvs : List (Int × α)} {k : Int} {x : α} {A B : OA} {kvd : List (Int × PyData)}
/-- the expression runs while the dict is locked -/
theorem xe_lock (O : Own ρ v0 (aDK X.K kvd) w) (O2 : ∀ od ws, Own (w (aDL X.K od ws kvd)) v0 (aDL X.K od ws kvd) (w2 od ws)) (kk : ∀ od ws, XE X e (w (aDL X.K od ws kvd)) (w (aDL X.K od ws kvd)) A) (hb : ∀ od ws, w2 od ws (aDK X.K kvd) = ρ') : XE X e ρ ρ' A := fun E T t σ H l st Q q => by
  obtain ⟨G, F, f, c⟩ := st
  obtain ⟨F1, F2, e1, ⟨d, ws, ev, eF, h1, qk⟩, go⟩ := O.get l c
  subst eF
  refine wE.of (pe_lock peS) ⟨d, .dK ws, h1, trivial, fun od => ?_⟩
  have f1 := f.perm e1
  have f2 : Frm ⟨G, H, [d]⟩ G H [d] := (f1.less (List.sublist_append_left _ _)).start
  have f3 := Frm.write (o := .frz od (.dK ws)) f2
  obtain ⟨f5, st5⟩ := f.step e1 f3
  obtain ⟨F6, e8, c4⟩ := go (.refl _) f5.gh st5 (B := aDL X.K od ws kvd) (F1' := [d]) ⟨d, ev, rfl, upd_same, qk⟩
  refine kk od ws E T t σ _ l ⟨G, F6, f5.perm e8.symm, c4⟩ _ fun v H' st1 => ?_
  obtain ⟨G2, F7, f7, c7⟩ := st1
  obtain ⟨F8, F9, e9, ⟨d', ev', eF', h9, q9⟩, go9⟩ := (O2 od ws).get (T := some A :: T) (t := some v :: t) (by simp [l]) c7
  rw [ev] at ev'
  cases ev'
  subst eF'
  refine ⟨h9, q v _ ?_⟩
  have g1 := f7.perm e9
  have g2 : Frm ⟨G2, H', [d]⟩ G2 H' [d] := (g1.less (List.sublist_append_left _ _)).start
  have g3 := Frm.write (o := .dK ws) g2
  obtain ⟨g5, st6⟩ := f7.step e9 g3
  obtain ⟨F10, e11, c10⟩ := go9 (.refl _) g5.gh st6 (B := aDK X.K kvd) (F1' := [d]) ⟨d, ws, ev, rfl, upd_same, q9⟩
  rw [hb od ws] at c10
  exact ⟨G2, F10, g5.perm e11.symm, c10⟩
theorem ST.seeL {K : PySem.W.Frag} {T ρ : Cl} {t σ : L2.St} {G H : Hp} {F : List Addr} {od : Obj} {ws : List (Key × V)} (l : T.length = t.length) (c : Cs G H (T ++ ρ) (t ++ σ) F) (O : Own ρ v0 (aDL K od ws kvd) w) : ∃ p, v0 = .ref p ∧ H p = some (.frz od (.dK ws)) ∧ KvD K G ws kvd := by
  obtain ⟨F1, F2, e1, ⟨p, e2, e3, h1, q⟩, go⟩ := O.get l c
  exact ⟨p, e2, h1, q⟩
/-- d[k] of a locked dict -/
theorem xe_dgetL {od : Obj} {ws : List (Key × V)} (hu : X.A.units + 64 < cLine) (hx : dGet kvs k = some x) (ho : XE X o ρ ρ (aV v0)) (hb : XE X b ρ ρ1 (aD X.K (.int k))) (O : Own ρ1 v0 (aDL X.K od ws (dD kvs)) w) (hs : NoSl b := by exact fun _ _ => rfl) : XE X (.Subscript o b pos) ρ ρ1 (aD X.K (Cd.d x)) := fun E T t σ H l st Q kk =>
  wE.of (pe_dget (hu1 hu) peS peS hs) (ho E T t σ H l st _ fun u H1 st1 => by
    have e0 := ST.topV st1
    subst e0
    refine hb E (_ :: T) (_ :: t) σ H1 (by simp [l]) st1 _ fun y H2 st2 => ?_
    obtain ⟨G, F, f, c, q⟩ := ST.top (ST.drop2 st2)
    cases q
    obtain ⟨p, e1, h1, q⟩ := ST.seeL l c O
    obtain ⟨v, e2, hv⟩ := q.get (dGet_d hx)
    refine ⟨p, v, e1, ?_, kk _ _ (ST.put f c hv)⟩
    rw [← e2]
    exact .inl ⟨ws, Sum.inl k, .inr ⟨od, h1⟩, rfl, rfl⟩)
/-- for k in d, d locked -/
theorem xi_dkeys {od : Obj} {ws : List (Key × V)} (h : XE X iter ρ ρ1 (aV v0)) (hi : Own ρ1 v0 (aDL X.K od ws (dD kvs)) w) : XI X tg iter ρ ρ1 (fun L => ∃ w, Own L v0 (aDL X.K od ws (dD kvs)) w) (dKeys kvs) (fun x => aD X.K (.int x)) := fun E T t σ H l st R k => by
  have rd : ∀ {E : Ent} {T : Cl} {t : L2.St} {L : Cl} {C : L2.St} {H : Hp}, T.length = t.length → (∃ w, Own L v0 (aDL X.K od ws (dD kvs)) w) → ST E (T ++ L) (t ++ C) H → ∃ p G F, v0 = .ref p ∧ H p = some (.frz od (.dK ws)) ∧ KvD X.K G ws (dD kvs) ∧ Frm E G H F ∧ Cs G H (T ++ L) (t ++ C) F := fun {E T t L C H} l hL st => by
    obtain ⟨G, F, f, c⟩ := st
    obtain ⟨w, hL⟩ := hL
    obtain ⟨p, e1, e2, e3⟩ := ST.seeL l c hL
    exact ⟨p, G, F, e1, e2, e3, f, c⟩
  refine wI.of (pi_keys peS) (h E T t σ H l st _ fun v H1 st1 => ?_)
  obtain ⟨G, F, Fv, f, cs, e0, _⟩ := ST.one st1
  have st2 : ST E (T ++ ρ1) (t ++ σ) H1 := ⟨G, F, f, cs⟩
  obtain ⟨p, G', F', e1, h1, hk, _, _⟩ := rd l ⟨w, hi⟩ st2
  subst e0 e1
  have hlen : ws.length = (dKeys kvs).length := by
    have := congrArg List.length hk.keys
    rw [List.length_map, List.length_map, dKeys_d] at this
    exact this
  refine ⟨p, od, rfl, .inl ⟨ws, h1, k _ E _ (.refl _) st2 ⟨fun n hn T t L C H l ok st => ?_, fun T t L C H l ok st => ?_, fun n x v H H' hx T t L C l ok st y => ?_⟩⟩⟩
  · obtain ⟨p', G2, F2, e1, h1, _, _, _⟩ := rd l ok st
    cases e1
    exact ⟨h1, by rw [hlen]; exact hn⟩
  · obtain ⟨p', G2, F2, e1, h1, _, _, _⟩ := rd l ok st
    cases e1
    exact ⟨h1, by rw [hlen]; exact Nat.le_refl _⟩
  · obtain ⟨p', G2, F2, e1, h1, hk2, f2, c2⟩ := rd l ok st
    cases e1
    obtain ⟨e1, k', v', e2, e3⟩ := y
    have e4 : (ws.map (·.1))[n]? = some k' := by rw [List.getElem?_map, e2]; rfl
    rw [hk2.keys, List.getElem?_map, dKeys_d, hx] at e4
    have e5 : Sum.inl x = k' := Option.some.inj e4
    subst e5 e3 e1
    exact ST.put f2 c2 (.int x)
/-! dict(pairs) -/
def dOf {β : Type} (ps : List (Int × β)) : List (Int × β) := ps.foldl (fun acc p => dPut acc p.1 p.2) []
theorem kvd_merge {K : PySem.W.Frag} {G : Hp} : ∀ {ws ws' : List (Key × V)} {kvs kvs' : List (Int × PyData)}, KvD K G ws kvs → KvD K G ws' kvs' → KvD K G (mergeK ws ws') (kvs'.foldl (fun acc p => dPut acc p.1 p.2) kvs)
  | _, _, _, _, h, .nil => h
  | ws, _, kvs, _, h, .cons (k := k) (v := v) (d := d) hv t => kvd_merge (ws := putK ws (Sum.inl k) v) (kvs := dPut kvs k d) (h.put hv) t
theorem dOf_d (ps : List (Int × α)) : (dD ps).foldl (fun acc p => dPut acc p.1 p.2) [] = dD (dOf ps) := by
  have key : ∀ (ps acc : List (Int × α)), (dD ps).foldl (fun acc p => dPut acc p.1 p.2) (dD acc) = dD (ps.foldl (fun acc p => dPut acc p.1 p.2) acc) := fun ps => by
    induction ps with
    | nil => intro acc; rfl
    | cons p ps ih =>
      intro acc
      show (dD ps).foldl _ (dPut (dD acc) p.1 (Cd.d p.2)) = _
      rw [dPut_d, ih]
      rfl
  exact key ps []
theorem pairs_dq {K : PySem.W.Frag} {G H : Hp} (ex : Ex G H) : ∀ {ps : List (Int × α)} {vs : List V}, DqAll K G vs (ps.map fun q => Cd.d q) → ∃ (as : List Addr) (ws : List (Key × V)), vs = as.map V.ref ∧ Paired (fun p kv => SqT K H p [kV kv.1, kv.2]) as ws ∧ KvD K G ws (dD ps)
  | [], _, h => by cases h; exact ⟨[], [], rfl, .nil, .nil⟩
  | q :: ps, _, h => by
    cases h with
    | cons h1 h2 =>
      obtain ⟨as, ws, e1, pr, kv⟩ := pairs_dq ex h2
      subst e1
      have h1 : Dq K G _ (PyData.tuple [Cd.d q.1, Cd.d q.2]) := h1
      cases h1 with
      | tup a1 a2 =>
        cases a2 with
        | cons b1 b2 =>
          cases b2 with
          | cons c1 c2 =>
            cases c2
            have b1 : Dq K G _ (PyData.int q.1) := b1
            cases b1
            exact ⟨_ :: as, (Sum.inl q.1, _) :: ws, rfl, .cons (ex.st a1) pr, .cons c1 kv⟩
/-- dict(pairs) -/
theorem xe_dictP {ps : List (Int × α)} (hc : X.calm = true) (ha : XE X a ρ ρ1 A) (r : Rls X.K ρ1 A (ps.map fun q => Cd.d q)) (hm : X.mg "dict" = none) (hg : Gl X "dict" := by rfl) (hs : starEach [a] X.env = [(false, eval a X.env)] := by rfl) (hpl : (backTo pos (starEach [] X.env)).any (·.1) = false := by rfl) : XE X (.Call (.Name "dict" p) [a] [] pos) ρ ρ1 (aDK X.K (dD (dOf ps))) :=
  xe_callTy (call_dictP hc) (xa_cons ha xa_nil hs) (fun E T t σ vs H Q l hl st k => by
    obtain ⟨v, rfl⟩ := vs1 hl
    obtain ⟨G, F, Fv, f, c, q⟩ := ST.one st
    obtain ⟨a1, xs, e1, e2, e3⟩ := r l c f.gh q
    obtain ⟨as, ws, e4, pr, kv⟩ := pairs_dq f.gh e3
    subst e1 e4
    refine ⟨a1, as, ws, rfl, e2, pr, fun p' hn => k _ _ ?_⟩
    have kv2 := kvd_merge (ws := []) (kvs := []) .nil kv
    rw [dOf_d] at kv2
    obtain ⟨f1, keep⟩ := f.step (Fa := []) (Fr := F) (.refl _) (Frm.alloc (o := .dK (mergeK [] ws)) f.gh hn)
    exact ⟨G, _, f1, .ref p', [p'], F, rfl, rfl, ⟨p', _, rfl, rfl, upd_same, kv2⟩, c.mono (.refl _) f1.gh keep⟩) hm (by decide +kernel) hg (by decide) (by decide) hs hpl
end
/-! an owned list of pairs (int, owned list) -/
abbrev aPr (K : PySem.W.Frag) {α : Type} [Cd α] (p : Int × List α) : OA := aT [aD K (Cd.d p.1), aLD K (p.2.map Cd.d)]
abbrev aLP (K : PySem.W.Frag) {α : Type} [Cd α] (xs : List (Int × List α)) : OA := aL (xs.map (aPr K))
section
variable {K : PySem.W.Frag} {α : Type} [Cd α] {ρ : Cl} {v0 : V} {w : OA → Cl}
theorem lp_dp {G H : Hp} (e : Ex G H) : ∀ {xs : List (Int × List α)} {vs : List V} {F : List Addr}, Cs G H ((xs.map (aPr K)).map some) (vs.map some) F → DpAll K H vs (xs.map fun q => Cd.d q)
  | [], [], _, _ => .nil
  | [], _ :: _, _, h => h.elim
  | _ :: _, [], _, h => h.elim
  | x :: xs, y :: vs, F, h => by
    obtain ⟨v, F1, F2, e1, e2, a, c⟩ := h
    cases e1
    obtain ⟨p, us, F', e3, e4, h1, c1⟩ := a
    match us, h1, c1 with
    | [], _, c1 => exact c1.elim
    | [_], _, c1 =>
      obtain ⟨_, _, _, _, _, _, c2⟩ := c1
      exact c2.elim
    | _ :: _ :: _ :: _, _, c1 =>
      obtain ⟨_, _, _, _, _, _, _, _, _, _, _, _, c2⟩ := c1
      exact c2.elim
    | [u1, u2], h1, c1 =>
      obtain ⟨w1, F3, F4, e5, e6, ⟨q1, _⟩, w2, F5, F6, e7, e8, ⟨p2, us2, F7, e9, e10, h2, c3⟩, _⟩ := c1
      obtain ⟨q2, _⟩ := csD c3
      cases e5
      cases e7
      subst e3 e9
      exact .cons (.tup (.inl (.inl h1)) (.cons (Dq.dp _ _ (Dq.mono e _ _ q1)) (.cons (.lst (.inl (.inl h2)) (DqAll.dp _ _ (DqAll.mono e _ _ q2))) .nil))) (lp_dp e c)
theorem rdLP {xs : List (Int × List α)} (O : Own ρ v0 (aLP K xs) w) : Rda K ρ (aV v0) (Cd.d xs) := fun l c e p => by
  obtain ⟨e0, _⟩ := p
  obtain ⟨F1, F2, e1, ⟨q, vs, F', e2, e3, h1, c1⟩, go⟩ := O.get l c
  subst e0
  subst e2
  exact .lst (.inl (.inl h1)) (lp_dp e c1)
theorem rdLPF {xs : List (Int × List α)} : Rda K ρ (aLP K xs) (Cd.d xs) := fun l c e p => by
  obtain ⟨q, vs, F', e2, e3, h1, c1⟩ := p
  subst e2
  exact .lst (.inl (.inl h1)) (lp_dp e c1)
theorem rtyL {As : List OA} (O : Own ρ v0 (aL As) w) : Rty K ρ (aV v0) "list" := fun l c e p => by
  obtain ⟨e0, _⟩ := p
  obtain ⟨F1, F2, e1, ⟨q, vs, F', e2, e3, h1, c1⟩, go⟩ := O.get l c
  subst e0
  subst e2
  exact sql_ty (.inl (.inl h1))
end
section
variable {X : Cx} {ρ : Cl} {a b b2 : Expr} {pos p2 : Pos} {v0 : V} {α : Type} [Cd α]
/-- xs[0][1], taken out; the rest is dropped -/
theorem xe_lp01 (i : Nat) {xs : List (Int × List α)} {x : Int × List α} (h : ρ[i]? = some (some (pin v0 (aLP X.K xs)))) (hx : atI xs 0 = some x) (ha : ∀ (ρ' : Cl) (A : OA), ρ'[i]? = some (some (pin v0 A)) → XE X a ρ' ρ' (aV v0)) (hb : ∀ ρ', XE X b ρ' ρ' (aD X.K (.int 0))) (hb2 : ∀ ρ', XE X b2 ρ' ρ' (aD X.K (.int 1)))
    (hs : PlainIx b := by exact fun _ _ => rfl) (hs2 : PlainIx b2 := by exact fun _ _ => rfl) : XE X (.Subscript (.Subscript a b p2) b2 pos) ρ (ρ.set i none) (aLD X.K (x.2.map Cd.d)) := by
  have hl : i < ρ.length := lt_of_get h
  have h0 : xs[0]? = some x := by
    have := hx
    unfold atI ixN at this
    cases xs with
    | nil => cases this
    | cons y ys =>
      rw [if_pos (by decide), if_pos (by simp only [List.length_cons]; omega)] at this
      exact this
  have hg : (xs.map (aPr X.K))[0]? = some (aPr X.K x) := map_at h0
  have hlt : 0 < (xs.map (aPr X.K)).length := lt_of_get hg
  refine xe_pinC ctnL (Own.slot i h) 0 hg fun v => ?_
  have h1 : (ρ.set i (some (pin v0 (aL ((xs.map (aPr X.K)).set 0 (pin v (aPr X.K x)))))))[i]? = some (some (pin v0 (aL ((xs.map (aPr X.K)).set 0 (pin v (aPr X.K x)))))) := List.getElem?_set_self hl
  have O1 := Own.foc ctnL (Own.slot i h1) hlt
  refine xe_pinC (A := aLD X.K (x.2.map Cd.d)) ctnT O1 1 rfl fun u => ?_
  let R := (ρ.set i (some (pin v0 (aL ((xs.map (aPr X.K)).set 0 (pin v (aPr X.K x))))))).set i (some (pin v0 (aL ((xs.map (aPr X.K)).set 0 (pin v (aT [aD X.K (Cd.d x.1), pin u (aLD X.K (x.2.map Cd.d))]))))))
  have hRl : i < (ρ.set i (some (pin v0 (aL ((xs.map (aPr X.K)).set 0 (pin v (aPr X.K x))))))).length := by rw [List.length_set]; exact hl
  have h2 : R[i]? = some (some (pin v0 (aL ((xs.map (aPr X.K)).set 0 (pin v (aT [aD X.K (Cd.d x.1), pin u (aLD X.K (x.2.map Cd.d))])))))) := List.getElem?_set_self hRl
  have O2 := Own.foc ctnL (Own.slot i h2) hlt
  have e1 : XE X (.Subscript a b p2) R R (aV v) := xe_itV (ha R _ h2) (hb R) (Own.slot i h2) (by rw [List.length_set]; unfold ixN; rw [if_pos (by decide), if_pos (by omega)]; rfl) (List.getElem?_set_self hlt) hs
  have e2 : XE X (.Subscript (.Subscript a b p2) b2 pos) R R (aV u) := xe_itT e1 (hb2 R) O2 (j := 1) rfl rfl hs2
  refine xe_wk (xe_own e2 (Own.kid ctnT O2 1 rfl)) ?_
  show Wk (List.set _ i _) _
  have : ∀ (L : Cl) (x : Option OA), L.length = ρ.length → (∀ j, j ≠ i → L[j]? = ρ[j]?) → Wk (L.set i x) (ρ.set i none) := fun L x hL hj => by
    have e : ρ.set i none = (L.set i x).set i none := by
      refine List.ext_getElem? fun j => ?_
      by_cases q : j = i
      · subst q
        rw [List.getElem?_set_self hl, List.getElem?_set_self (by rw [List.length_set, hL]; exact hl)]
      · rw [List.getElem?_set_ne (fun z => q z.symm), List.getElem?_set_ne (fun z => q z.symm), List.getElem?_set_ne (fun z => q z.symm), hj j q]
    rw [e]
    exact wk_setn _ _
  refine this _ _ ?_ fun j hj => ?_
  · show (List.set (List.set _ _ _) _ _).length = _
    rw [List.length_set, List.length_set]
  · show (List.set (List.set _ _ _) _ _)[j]? = _
    rw [List.getElem?_set_ne (fun z => hj z.symm), List.getElem?_set_ne (fun z => hj z.symm)]
end
end Mr

set_option Elab.async false
set_option linter.all false
set_option maxRecDepth 100000
/-! mathematics of mirrors: plain Lean -/
namespace Mr
open PySem PySem.Spec PyProof.Rows L2
section
variable {α β γ δ : Type}
theorem bsome (a : α) (f : α → Option β) : Option.bind (some a) f = f a := rfl
theorem lett_eq {α β : Type} (v : α) (k : α → β) : lett v k = k v := rfl
theorem foldB_unit {f : Unit → α → Option (γ ⊕ Unit)} : ∀ {xs : List α}, (∀ x, x ∈ xs → f () x = some (.inr ())) → foldB f xs () = some (.inr ())
  | [], _ => rfl
  | x :: xs, h => by
    show thenR (f () x) (foldB f xs) Sum.inl = _
    rw [h x (by simp)]
    exact foldB_unit fun y hy => h y (by simp [hy])
/-- a loop by what holds between its turns -/
theorem foldB_inv {f : β → α → Option (γ ⊕ β)} (I : β → Prop) : ∀ {xs : List α} {s : β}, I s → (∀ x s, x ∈ xs → I s → ∃ s', f s x = some (.inr s') ∧ I s') → ∃ s', foldB f xs s = some (.inr s') ∧ I s'
  | [], s, h, _ => ⟨s, rfl, h⟩
  | x :: xs, s, h, k => by
    obtain ⟨s1, e1, h1⟩ := k x s (by simp) h
    obtain ⟨s2, e2, h2⟩ := foldB_inv I (xs := xs) h1 fun y s hy hs => k y s (by simp [hy]) hs
    refine ⟨s2, ?_, h2⟩
    show thenR (f s x) (foldB f xs) Sum.inl = _
    rw [e1]
    exact e2
theorem foldM_inv {f : β → α → Option β} (I : β → Prop) : ∀ {xs : List α} {s : β}, I s → (∀ x s, x ∈ xs → I s → ∃ s', f s x = some s' ∧ I s') → ∃ s', List.foldlM f s xs = some s' ∧ I s'
  | [], s, h, _ => ⟨s, rfl, h⟩
  | x :: xs, s, h, k => by
    obtain ⟨s1, e1, h1⟩ := k x s (by simp) h
    obtain ⟨s2, e2, h2⟩ := foldM_inv I (xs := xs) h1 fun y s hy hs => k y s (by simp [hy]) hs
    refine ⟨s2, ?_, h2⟩
    rw [List.foldlM_cons, e1]
    exact e2
/-- with the number of turns that are behind -/
theorem foldM_idx {f : β → α → Option β} (I : Nat → β → Prop) : ∀ {xs : List α} {n : Nat} {s : β}, I n s → (∀ (i : Nat) x s, xs[i]? = some x → I (n + i) s → ∃ s', f s x = some s' ∧ I (n + i + 1) s') → ∃ s', List.foldlM f s xs = some s' ∧ I (n + xs.length) s'
  | [], n, s, h, _ => ⟨s, rfl, h⟩
  | x :: xs, n, s, h, k => by
    obtain ⟨s1, e1, h1⟩ := k 0 x s rfl h
    obtain ⟨s2, e2, h2⟩ := foldM_idx I (xs := xs) (n := n + 1) h1 fun i y s hy hs => by
      have e : n + 1 + i = n + (i + 1) := by omega
      rw [e] at hs ⊢
      exact k (i + 1) y s hy hs
    refine ⟨s2, ?_, ?_⟩
    · rw [List.foldlM_cons, e1]
      exact e2
    · have e : n + (x :: xs).length = n + 1 + xs.length := by simp; omega
      rw [e]; exact h2
theorem foldB_idx {f : β → α → Option (γ ⊕ β)} (I : Nat → β → Prop) : ∀ {xs : List α} {n : Nat} {s : β}, I n s → (∀ (i : Nat) x s, xs[i]? = some x → I (n + i) s → ∃ s', f s x = some (.inr s') ∧ I (n + i + 1) s') → ∃ s', foldB f xs s = some (.inr s') ∧ I (n + xs.length) s'
  | [], n, s, h, _ => ⟨s, rfl, h⟩
  | x :: xs, n, s, h, k => by
    obtain ⟨s1, e1, h1⟩ := k 0 x s rfl h
    obtain ⟨s2, e2, h2⟩ := foldB_idx I (xs := xs) (n := n + 1) h1 fun i y s hy hs => by
      have e : n + 1 + i = n + (i + 1) := by omega
      rw [e] at hs ⊢
      exact k (i + 1) y s hy hs
    refine ⟨s2, ?_, ?_⟩
    · show thenR (f s x) (foldB f xs) Sum.inl = _
      rw [e1]
      exact e2
    · have e : n + (x :: xs).length = n + 1 + xs.length := by simp; omega
      rw [e]; exact h2
theorem thenR_r {m : Option (γ ⊕ β)} {k : β → Option δ} {f : γ → δ} {s : β} (h : m = some (.inr s)) : thenR m k f = k s := by rw [h]; rfl
theorem thenR_l {m : Option (γ ⊕ β)} {k : β → Option δ} {f : γ → δ} {r : γ} (h : m = some (.inl r)) : thenR m k f = some (f r) := by rw [h]; rfl
theorem mem_rangeI {lo : Int} {n : Nat} {x : Int} : x ∈ rangeI lo n ↔ lo ≤ x ∧ x < lo + n := by
  unfold rangeI
  rw [List.mem_map]
  constructor
  · rintro ⟨i, hi, rfl⟩
    have := List.mem_range.mp hi
    omega
  · intro h
    exact ⟨(x - lo).toNat, List.mem_range.mpr (by omega), by omega⟩
theorem rangeI_at {lo : Int} {n i : Nat} (h : i < n) : (rangeI lo n)[i]? = some (lo + i) := by
  unfold rangeI
  rw [List.getElem?_map, List.getElem?_range h]
  rfl
theorem mulM_some {i j : Int} (h : MulOk i j) : mulM i j = some (i * j) := by unfold mulM; rw [if_pos h]
theorem divM_some {i j : Int} (h : DivOk j) : divM i j = some (i / j) := by unfold divM; rw [if_pos h]
theorem modM_some {i j : Int} (h : 0 < j) : modM i j = some (i % j) := by unfold modM; rw [if_pos h]
theorem guardO_some {p : Prop} [Decidable p] (h : p) : guardO p = some () := by unfold guardO; rw [if_pos h]
theorem atI_nn {xs : List α} {i : Int} (h : 0 ≤ i) : atI xs i = xs[i.toNat]? := by
  unfold atI ixN
  rw [if_pos h]
  by_cases hl : i < xs.length
  · rw [if_pos hl]; rfl
  · rw [if_neg hl, List.getElem?_eq_none (by omega)]; rfl
theorem atI_at {xs : List α} {n : Nat} : atI xs (n : Int) = xs[n]? := by
  rw [atI_nn (by omega)]
  rfl
theorem ixN_nn {n : Nat} {i : Int} (h : 0 ≤ i) (h2 : i < n) : ixN n i = some i.toNat := by
  unfold ixN
  rw [if_pos h, if_pos h2]
theorem atI_lt {xs : List α} {i : Int} (h : 0 ≤ i) (h2 : i < xs.length) : ∃ x, atI xs i = some x ∧ x ∈ xs := by
  rw [atI_nn h]
  have hl : i.toNat < xs.length := by omega
  exact ⟨xs[i.toNat], List.getElem?_eq_getElem hl, List.getElem_mem hl⟩
/-- lists, item by item -/
inductive F2 (R : α → β → Prop) : List α → List β → Prop
  | nil : F2 R [] []
  | cons {x : α} {y : β} {xs : List α} {ys : List β} : R x y → F2 R xs ys → F2 R (x :: xs) (y :: ys)
theorem F2.append {R : α → β → Prop} : ∀ {xs us : List α} {ys vs : List β}, F2 R xs ys → F2 R us vs → F2 R (xs ++ us) (ys ++ vs)
  | _, _, _, _, .nil, h => h
  | _, _, _, _, .cons r t, h => .cons r (t.append h)
theorem F2.len {R : α → β → Prop} : ∀ {xs : List α} {ys : List β}, F2 R xs ys → xs.length = ys.length
  | _, _, .nil => rfl
  | _, _, .cons _ t => congrArg (· + 1) t.len
theorem mapL_some {f : α → Option δ} {g : α → δ} : ∀ {xs : List α}, (∀ x ∈ xs, f x = some (g x)) → mapL f xs = some (xs.map g)
  | [], _ => rfl
  | x :: xs, h => by
    unfold mapL
    rw [h x (by simp), mapL_some fun y hy => h y (by simp [hy])]
    rfl
theorem mapO_some {f : α → Option δ} {g : α → δ} {xs : List α} (hl : xs.length ≤ 1000000) (h : ∀ x ∈ xs, f x = some (g x)) : mapO f xs = some (xs.map g) := by
  unfold mapO
  rw [if_pos hl, mapL_some h]
theorem fltL_some {t : α → Option Bool} {f : α → Option δ} {p : α → Bool} {g : α → δ} : ∀ {xs : List α}, (∀ x ∈ xs, t x = some (p x)) → (∀ x ∈ xs, p x = true → f x = some (g x)) → fltL t f xs = some ((xs.filter p).map g)
  | [], _, _ => rfl
  | x :: xs, h, k => by
    unfold fltL
    have ih := fltL_some (xs := xs) (fun y hy => h y (by simp [hy])) fun y hy => k y (by simp [hy])
    rw [h x (by simp), bsome]
    by_cases hp : p x = true
    · rw [if_pos hp, k x (by simp) hp, bsome, ih, bsome, List.filter_cons, if_pos hp]
      rfl
    · rw [if_neg hp, ih, List.filter_cons, if_neg hp]
theorem fltO_some {t : α → Option Bool} {f : α → Option δ} {p : α → Bool} {g : α → δ} {xs : List α} (hl : xs.length ≤ 1000000) (h : ∀ x ∈ xs, t x = some (p x)) (k : ∀ x ∈ xs, p x = true → f x = some (g x)) : fltO t f xs = some ((xs.filter p).map g) := by
  unfold fltO
  rw [if_pos hl, fltL_some h k]
/-- a comprehension whose elements change something -/
theorem mapT_inv {f : β → α → Option (δ × β)} (I : β → Prop) (R : α → δ → Prop) : ∀ {xs : List α} {s : β}, I s → (∀ x s, x ∈ xs → I s → ∃ y s', f s x = some (y, s') ∧ I s' ∧ R x y) → ∃ ys s', mapT f xs s = some (ys, s') ∧ I s' ∧ F2 R xs ys
  | [], s, h, _ => ⟨[], s, rfl, h, .nil⟩
  | x :: xs, s, h, k => by
    obtain ⟨y, s1, e1, h1, r1⟩ := k x s (by simp) h
    obtain ⟨ys, s2, e2, h2, r2⟩ := mapT_inv I R (xs := xs) h1 fun y s hy hs => k y s (by simp [hy]) hs
    refine ⟨y :: ys, s2, ?_, h2, .cons r1 r2⟩
    unfold mapT
    rw [e1, bsome, e2]
    rfl
theorem mapS_inv {f : β → α → Option (δ × β)} (I : β → Prop) (R : α → δ → Prop) {xs : List α} {s : β} (hl : xs.length ≤ 1000000) (h : I s) (k : ∀ x s, x ∈ xs → I s → ∃ y s', f s x = some (y, s') ∧ I s' ∧ R x y) : ∃ ys s', mapS f xs s = some (ys, s') ∧ I s' ∧ F2 R xs ys := by
  unfold mapS
  rw [if_pos hl]
  exact mapT_inv I R h k
theorem F2.ex_left {R : α → β → Prop} {P : β → Prop} : ∀ {xs : List α} {ys : List β}, F2 R xs ys → (∀ x y, R x y → P y) → ∀ y ∈ ys, P y
  | _, _, .nil, _, y, hy => by simp at hy
  | _, _, .cons r t, h, y, hy => by
    rcases List.mem_cons.mp hy with e | e
    · subst e; exact h _ _ r
    · exact t.ex_left h y e
theorem rangeI_zero (lo : Int) : rangeI lo 0 = [] := rfl
theorem rangeI_succ (lo : Int) (n : Nat) : rangeI lo (n + 1) = lo :: rangeI (lo + 1) n := by
  unfold rangeI
  rw [List.range_succ_eq_map, List.map_cons, List.map_map]
  simp only [Int.natCast_zero, Int.add_zero]
  congr 1
  refine List.map_congr_left fun i _ => ?_
  show lo + ((i + 1 : Nat) : Int) = lo + 1 + (i : Int)
  omega
theorem sIx_none (n d : Nat) : HT.sIx n d none = d := by simp [HT.sIx_none]
theorem sIx_some (n d : Nat) {k : Int} (h : 0 ≤ k) : HT.sIx n d (some k) = min k.toNat n := by
  obtain ⟨m, rfl⟩ : ∃ m : Nat, k = m := ⟨k.toNat, by omega⟩
  rw [HT.sIx_nat]
  simp
theorem cutL_take {xs : List α} {k : Int} (h : 0 ≤ k) : cutL xs none (some k) = xs.take k.toNat := by
  unfold cutL
  rw [sIx_none, sIx_some _ _ h, List.drop_zero, Nat.sub_zero]
  by_cases q : k.toNat ≤ xs.length
  · rw [Nat.min_eq_left q]
  · rw [Nat.min_eq_right (by omega), List.take_of_length_le (Nat.le_refl _), List.take_of_length_le (by omega)]
theorem cutL_drop {xs : List α} {k : Int} (h : 0 ≤ k) : cutL xs (some k) none = xs.drop k.toNat := by
  unfold cutL
  rw [sIx_none, sIx_some _ _ h]
  by_cases q : k.toNat ≤ xs.length
  · rw [Nat.min_eq_left q, List.take_of_length_le (by simp)]
  · rw [Nat.min_eq_right (by omega), List.drop_of_length_le (Nat.le_refl _), List.drop_of_length_le (by omega), List.take_nil]
theorem cutL_mid {xs : List α} {a b : Int} (ha : 0 ≤ a) (hb : 0 ≤ b) : cutL xs (some a) (some b) = (xs.drop a.toNat).take (b.toNat - a.toNat) := by
  unfold cutL
  rw [sIx_some _ _ ha, sIx_some _ _ hb]
  by_cases q : a.toNat ≤ xs.length
  · rw [Nat.min_eq_left q]
    by_cases r : b.toNat ≤ xs.length
    · rw [Nat.min_eq_left r]
    · rw [Nat.min_eq_right (by omega), List.take_of_length_le (by simp), List.take_of_length_le (by simp; omega)]
  · rw [List.drop_of_length_le (show xs.length ≤ min a.toNat xs.length by omega), List.drop_of_length_le (by omega), List.take_nil, List.take_nil]
theorem cutL_all {xs : List α} : cutL xs none none = xs := by
  unfold cutL
  rw [sIx_none, sIx_none, List.drop_zero, Nat.sub_zero, List.take_of_length_le (Nat.le_refl _)]
end
theorem thenR_idx {α β γ δ : Type} {f : β → α → Option (γ ⊕ β)} {xs : List α} {s0 : β} {k : β → Option δ} {g : γ → δ} {r : δ} (I : Nat → β → Prop) (h0 : I 0 s0) (hs : ∀ (i : Nat) x s, xs[i]? = some x → I i s → ∃ s', f s x = some (.inr s') ∧ I (i + 1) s') (he : ∀ s, I xs.length s → k s = some r) : thenR (foldB f xs s0) k g = some r := by
  obtain ⟨s, e, hI⟩ := foldB_idx (f := f) I (xs := xs) (n := 0) (s := s0) h0 fun i x s hx h => by
    rw [Nat.zero_add] at h
    rw [Nat.zero_add]
    exact hs i x s hx h
  rw [Nat.zero_add] at hI
  rw [thenR_r e, he s hI]
theorem bindM_idx {α β δ : Type} {f : β → α → Option β} {xs : List α} {s0 : β} {k : β → Option δ} {r : δ} (I : Nat → β → Prop) (h0 : I 0 s0) (hs : ∀ (i : Nat) x s, xs[i]? = some x → I i s → ∃ s', f s x = some s' ∧ I (i + 1) s') (he : ∀ s, I xs.length s → k s = some r) : Option.bind (List.foldlM f s0 xs) k = some r := by
  obtain ⟨s, e, hI⟩ := foldM_idx (f := f) I (xs := xs) (n := 0) (s := s0) h0 fun i x s hx h => by
    rw [Nat.zero_add] at h
    rw [Nat.zero_add]
    exact hs i x s hx h
  rw [Nat.zero_add] at hI
  rw [e, bsome, he s hI]
theorem whileO_mono {β : Type} {c : β → Option Bool} {f : β → Option β} : ∀ {n m : Nat} {s r : β}, whileO c f n s = some r → n ≤ m → whileO c f m s = some r
  | 0, _, _, _, h, _ => by cases h
  | n + 1, 0, _, _, _, h => by omega
  | n + 1, m + 1, s, r, h, hl => by
    have h : ((c s).bind fun b => if b = true then (f s).bind (whileO c f n) else some s) = some r := h
    show ((c s).bind fun b => if b = true then (f s).bind (whileO c f m) else some s) = some r
    cases hc : c s with
    | none => rw [hc] at h; cases h
    | some b =>
      rw [hc] at h
      cases b with
      | false => exact h
      | true =>
        have h : (f s).bind (whileO c f n) = some r := h
        show (f s).bind (whileO c f m) = some r
        cases hf : f s with
        | none => rw [hf] at h; cases h
        | some s' =>
          rw [hf] at h
          exact whileO_mono (n := n) (m := m) h (by omega)
theorem whileO_go {β : Type} {c : β → Option Bool} {f : β → Option β} {n : Nat} {s s' : β} (hc : c s = some true) (hf : f s = some s') : whileO c f (n + 1) s = whileO c f n s' := by
  show ((c s).bind fun b => if b = true then (f s).bind (whileO c f n) else some s) = _
  rw [hc]
  show (f s).bind (whileO c f n) = _
  rw [hf]
  rfl
theorem whileO_end {β : Type} {c : β → Option Bool} {f : β → Option β} {n : Nat} {s : β} (hc : c s = some false) : whileO c f (n + 1) s = some s := by
  show ((c s).bind fun b => if b = true then (f s).bind (whileO c f n) else some s) = _
  rw [hc]
  rfl
section
variable {α : Type}
theorem dGet_has {l : List (Int × α)} {k : Int} (h : dHas l k = true) : ∃ v, dGet l k = some v := by
  unfold dHas at h
  cases q : dGet l k with
  | none => rw [q] at h; cases h
  | some v => exact ⟨v, rfl⟩
theorem dHas_mem {l : List (Int × α)} {k : Int} : dHas l k = true ↔ k ∈ dKeys l := by
  induction l with
  | nil => simp [dHas, dGet, dKeys]
  | cons p l ih =>
    obtain ⟨k', v⟩ := p
    unfold dHas dGet dKeys at *
    by_cases e : k' = k
    · simp [List.find?_cons, e]
    · have e' : ¬ k = k' := fun q => e q.symm
      simp [List.find?_cons, e, e'] at ih ⊢
      try exact ih
theorem dGet_del {l : List (Int × α)} {k j : Int} : dGet (dDel l k) j = if j = k then none else dGet l j := by
  induction l with
  | nil => simp [dDel, dGet]
  | cons p l ih =>
    obtain ⟨k', v⟩ := p
    unfold dDel dGet at *
    by_cases e : k' = k
    · subst e
      rw [List.filter_cons, if_neg (by simp), ih]
      by_cases q : j = k'
      · rw [if_pos q, if_pos q]
      · rw [if_neg q, if_neg q, List.find?_cons]
        have : decide (k' = j) = false := decide_eq_false fun z => q z.symm
        simp only [this]
    · rw [List.filter_cons, if_pos (by simp [e]), List.find?_cons, List.find?_cons]
      by_cases q : k' = j
      · subst q
        simp [e]
      · simp only [decide_eq_false q]
        exact ih
theorem dGet_put {l : List (Int × α)} {k j : Int} {v : α} : dGet (dPut l k v) j = if j = k then some v else dGet l j := by
  have key : ∀ l : List (Int × α), dGet (l.map fun kv => if kv.1 = k then (kv.1, v) else kv) j = if j = k then (dGet l k).map fun _ => v else dGet l j := fun l => by
    induction l with
    | nil => simp [dGet]
    | cons p l ih =>
      obtain ⟨k', w⟩ := p
      unfold dGet at *
      rw [List.map_cons, List.find?_cons, List.find?_cons, List.find?_cons]
      by_cases e : k' = k
      · subst e
        by_cases q : j = k'
        · subst q; simp
        · have : ¬ k' = j := fun z => q z.symm
          simp only [if_true, decide_eq_false this, if_neg q] at ih ⊢
          exact ih
      · by_cases q : k' = j
        · subst q
          simp [e]
        · simp only [if_neg e, decide_eq_false q, decide_eq_false e] at ih ⊢
          exact ih
  unfold dPut
  split
  · rename_i h
    rw [key]
    by_cases q : j = k
    · rw [if_pos q, if_pos q]
      have : (dGet l k).isSome = true := by
        obtain ⟨p, hp, he⟩ := List.any_eq_true.mp h
        have : k ∈ dKeys l := List.mem_map.mpr ⟨p, hp, of_decide_eq_true he⟩
        exact dHas_mem.mpr this
      cases z : dGet l k with
      | none => rw [z] at this; cases this
      | some _ => rfl
    · rw [if_neg q, if_neg q]
  · rename_i h
    unfold dGet
    rw [List.find?_append]
    by_cases q : j = k
    · subst q
      have : l.find? (fun kv => decide (kv.1 = j)) = none := List.find?_eq_none.mpr fun p hp hd => h (List.any_eq_true.mpr ⟨p, hp, hd⟩)
      rw [this]
      simp
    · have : ¬ k = j := fun z => q z.symm
      rw [if_neg q]
      simp [this]
theorem dKeys_del (l : List (Int × α)) (k : Int) : dKeys (dDel l k) = (dKeys l).filter fun x => decide (x ≠ k) := by
  unfold dKeys dDel
  rw [List.filter_map]
  rfl
theorem dKeys_put_new {l : List (Int × α)} {k : Int} {v : α} (h : dHas l k = false) : dPut l k v = l ++ [(k, v)] := by
  unfold dPut
  rw [if_neg]
  intro q
  obtain ⟨p, hp, he⟩ := List.any_eq_true.mp q
  have : dHas l k = true := dHas_mem.mpr (List.mem_map.mpr ⟨p, hp, of_decide_eq_true he⟩)
  rw [h] at this
  cases this
end
theorem nodup_le : ∀ (n : Nat) (a : Int) (l : List Int), l.Nodup → (∀ x ∈ l, a ≤ x ∧ x < a + n) → l.length ≤ n
  | 0, a, [], _, _ => by simp
  | 0, a, x :: l, _, h => by have := h x (by simp); omega
  | n + 1, a, l, nd, h => by
    by_cases q : a + n ∈ l
    · have h1 := nodup_le n a (l.erase (a + n)) (nd.erase _) fun x hx => by
        have hx := nd.mem_erase_iff.mp hx
        have := h x hx.2
        have := hx.1
        omega
      rw [List.length_erase_of_mem q] at h1
      omega
    · have h1 := nodup_le n a l nd fun x hx => by
        have := h x hx
        have : x ≠ a + n := fun e => q (e ▸ hx)
        omega
      omega
theorem filter_lt {k : Int} : ∀ {l : List Int}, k ∈ l → (l.filter fun x => decide (x ≠ k)).length < l.length
  | [], h => by simp at h
  | x :: l, h => by
    rw [List.filter_cons]
    by_cases e : x = k
    · subst e
      rw [if_neg (by simp)]
      have := List.length_filter_le (fun y => decide (y ≠ x)) l
      simp only [List.length_cons]
      omega
    · rw [if_pos (by simp [e])]
      have h : k ∈ l := by
        rcases List.mem_cons.mp h with q | q
        · exact absurd q.symm e
        · exact q
      have := filter_lt h
      simp only [List.length_cons]
      omega
theorem has_del {α : Type} {l : List (Int × α)} {k j : Int} : dHas (dDel l k) j = true ↔ (j ≠ k ∧ dHas l j = true) := by
  unfold dHas
  rw [dGet_del]
  by_cases q : j = k
  · simp [q]
  · simp [q]
/-- a dict by what it holds -/
structure Dct {α : Type} (P : Int → α) (K : Int → Prop) (d : List (Int × α)) : Prop where
  nd : (dKeys d).Nodup
  val : ∀ k v, dGet d k = some v → v = P k
  has : ∀ k, dHas d k = true ↔ K k
namespace Dct
variable {α : Type} {P : Int → α} {K : Int → Prop} {d : List (Int × α)}
theorem empty : Dct P (fun _ => False) ([] : List (Int × α)) := ⟨.nil, fun k v h => by simp [dGet] at h, fun k => by simp [dHas, dGet]⟩
theorem congr (D : Dct P K d) {Q : Int → α} {L : Int → Prop} (hp : ∀ k, K k → P k = Q k) (h : ∀ k, K k ↔ L k) : Dct Q L d :=
  ⟨D.nd, fun k v e => (D.val k v e).trans (hp k ((D.has k).mp (by unfold dHas; rw [e]; rfl))), fun k => (D.has k).trans (h k)⟩
theorem get (D : Dct P K d) {k : Int} (h : K k) : dGet d k = some (P k) := by
  obtain ⟨v, e⟩ := dGet_has ((D.has k).mpr h)
  rw [e, D.val k v e]
theorem mem (D : Dct P K d) {k : Int} : k ∈ dKeys d ↔ K k := dHas_mem.symm.trans (D.has k)
theorem not (D : Dct P K d) {k : Int} (h : ¬ K k) : dHas d k = false := by
  cases q : dHas d k with
  | false => rfl
  | true => exact absurd ((D.has k).mp q) h
theorem del (D : Dct P K d) (c : Int) : Dct P (fun k => K k ∧ k ≠ c) (dDel d c) where
  nd := by rw [dKeys_del]; exact D.nd.filter _
  val := fun k v h => by
    rw [dGet_del] at h
    split at h
    · cases h
    · exact D.val k v h
  has := fun k => by
    rw [has_del, D.has]
    exact And.comm
theorem put (D : Dct P K d) {c : Int} {v : α} (h : ¬ K c) (ev : v = P c) : Dct P (fun k => K k ∨ k = c) (dPut d c v) := by
  have hp := dKeys_put_new (v := v) (D.not h)
  refine ⟨?_, fun k w hg => ?_, fun k => ?_⟩
  · rw [hp]
    unfold dKeys
    rw [List.map_append]
    refine List.nodup_append.mpr ⟨D.nd, by simp, fun a ha b hb e => ?_⟩
    have hb : b = c := by simpa using hb
    subst e hb
    exact h (D.mem.mp ha)
  · rw [dGet_put] at hg
    by_cases e : k = c
    · subst e
      rw [if_pos rfl] at hg
      exact (Option.some.inj hg).symm.trans ev
    · rw [if_neg e] at hg
      exact D.val k w hg
  · have : dHas (dPut d c v) k = true ↔ (k = c ∨ dHas d k = true) := by
      unfold dHas
      rw [dGet_put]
      by_cases e : k = c
      · simp [e]
      · simp [e]
    rw [this, D.has]
    exact Or.comm
theorem len (D : Dct P K d) {a : Int} {n : Nat} (h : ∀ k, K k → a ≤ k ∧ k < a + n) : d.length ≤ n := by
  have := nodup_le n a (dKeys d) D.nd fun x hx => h x (D.mem.mp hx)
  unfold dKeys at this
  rwa [List.length_map] at this
theorem klen : (dKeys d).length = d.length := by unfold dKeys; rw [List.length_map]
theorem slen : (srtI (dKeys d)).length = d.length := by rw [(srtI_perm _).length_eq, klen]
theorem smem (D : Dct P K d) {k : Int} : k ∈ srtI (dKeys d) ↔ K k := (srtI_perm _).mem_iff.trans D.mem
theorem srt (D : Dct P K d) (hl : d.length ≤ 1000000) : mapO (fun c : Int => Option.bind (dGet d c) fun v => some (c, v)) (srtI (dKeys d)) = some ((srtI (dKeys d)).map fun c => (c, P c)) := mapO_some (by rw [slen]; exact hl) fun x hx => by
  rw [D.get (D.smem.mp hx)]
  rfl
theorem unique (D : Dct P K d) {l : List Int} (nd : l.Nodup) (s : l.Pairwise (· ≤ ·)) (h : ∀ k, k ∈ l ↔ K k) : srtI (dKeys d) = l :=
  sorted_unique ((srtI_perm _).trans ((List.perm_ext_iff_of_nodup D.nd nd).mpr fun x => D.mem.trans (h x).symm)) (srtI_sorted _) s
end Dct
theorem minI_some (x : Int) (xs : List Int) : ∃ m, minI (x :: xs) = some m ∧ m ∈ x :: xs ∧ ∀ y ∈ x :: xs, m ≤ y := ⟨_, rfl, foldl_min xs x⟩
theorem fltO_id {α : Type} {t : α → Option Bool} {p : α → Bool} {xs : List α} (hl : xs.length ≤ 1000000) (h : ∀ x ∈ xs, t x = some (p x)) : fltO t (fun x => some x) xs = some (xs.filter p) := (fltO_some (g := id) hl h fun _ _ _ => rfl).trans (by rw [List.map_id])
/-- items by their places -/
theorem F2.get {α β : Type} {R : α → β → Prop} : ∀ {xs : List α} {ys : List β} {i : Nat} {x : α}, F2 R xs ys → xs[i]? = some x → ∃ y, ys[i]? = some y ∧ R x y
  | _, _, i, _, .nil, h => by simp at h
  | _, _, 0, _, .cons r t, h => by
    have := Option.some.inj (by simpa using h)
    subst this
    exact ⟨_, rfl, r⟩
  | _, _, i + 1, _, .cons r t, h => F2.get (i := i) t (by simpa using h)
theorem atI_some {α : Type} {l : List α} {i : Int} (h0 : 0 ≤ i) (h1 : i < l.length) : ∃ x, atI l i = some x ∧ l[i.toNat]? = some x := by
  rw [atI_nn h0]
  exact ⟨_, List.getElem?_eq_getElem (by omega), List.getElem?_eq_getElem (by omega)⟩
theorem popL_zero {α : Type} (a : α) (xs : List α) : popL (a :: xs) 0 = some (a, xs) := by
  unfold popL
  rw [if_pos (by decide)]
  have : seqIndex? 0 (a :: xs).length = some 0 := by
    unfold seqIndex?
    simp
  rw [this]
  rfl
end Mr

namespace MyLaw
open PySem PySem.Spec PyProof.Rows L2 Mr
def topS (i : Nat) : Stmt := PySem.Challenge.pw_bearerwise_k26_upper_sender.main.body.getD i (.Pass ⟨0, 0, 0, 0⟩)

abbrev ns_UpperSender : List Str := ["bits", "following", "packets"]
theorem nd_UpperSender : ns_UpperSender.Nodup := by decide +kernel
structure CF_UpperSender (K : PySem.W.Frag) (C : Addr) : Prop where
  cl : Cls K C
  n_bits : NoAttr K C "bits"
  n_following : NoAttr K C "following"
  n_packets : NoAttr K C "packets"
theorem nm_UpperSender_next_count : ("next_count" : Str) ∉ ns_UpperSender := by decide +kernel
theorem nm_UpperSender_base : ("base" : Str) ∉ ns_UpperSender := by decide +kernel
theorem nm_UpperSender_may_add : ("may_add" : Str) ∉ ns_UpperSender := by decide +kernel
theorem nm_UpperSender_add : ("add" : Str) ∉ ns_UpperSender := by decide +kernel
theorem nm_UpperSender_unconfirmed : ("unconfirmed" : Str) ∉ ns_UpperSender := by decide +kernel
theorem nm_UpperSender_confirm : ("confirm" : Str) ∉ ns_UpperSender := by decide +kernel
theorem nm_UpperSender_take_report : ("take_report" : Str) ∉ ns_UpperSender := by decide +kernel
def m_window (bits : Int) : Option Int :=
  (Option.bind (atI ([1, 2, 4, 8, 16, 32, 64, 128]) bits) fun x_1 =>
  (some (x_1 / 2)))
abbrev sp_window (K : PySem.W.Frag) (cl_UpperSender : Addr) (cl_BearerError : Addr) (cl_NotValid : Addr) : Sp := SpM (fun x : Int => [aD K (Cd.d (x : Int))]) (fun x => m_window x) (fun x (r : Int) => [none]) (fun _ r => aD K (Cd.d (r : Int)))
abbrev s_window : Stmt := topS 2
theorem sc_window : FnScope ["bits"] ["bits"] (defScope s_window) := ⟨rfl, rfl, rfl, by decide +kernel, rfl, by decide +kernel, by decide +kernel⟩
set_option maxHeartbeats 4000000 in
theorem ok_window {P : Program} {w : World} {K : PySem.W.Frag} {mg : Str → Option Value} {base : Heap} {f : Addr} {cl_UpperSender : Addr} {cl_BearerError : Addr} {cl_NotValid : Addr} {fd : FuncData} (F : Fun K "window" "window" s_window f fd) (T_UpperSender : CF_UpperSender K cl_UpperSender) (X_BearerError : ExK K mg "BearerError" cl_BearerError) (E_BearerError : ExcC K cl_BearerError) (X_NotValid : ExK K mg "NotValid" cl_NotValid) (E_NotValid : ExcC K cl_NotValid) (xm_NotValid_BearerError : PySem.W.exmOne K (.ref cl_NotValid) (.ref cl_BearerError) = some true) (xk_NotValid_NotValid : PySem.W.kitOne K (.ref cl_NotValid) (.ref cl_NotValid) = some true)  (g_SIZES : GTup K mg "SIZES" [1, 2, 4, 8, 16, 32, 64, 128]) : FnOk P w K mg base CX0 1 f fd ["bits"] (sp_window K cl_UpperSender cl_BearerError cl_NotValid) :=
  fn_ok (k := 0) [false] F sc_window rfl (fun _ => rfl) (fun _ _ => rfl) fun x vs cdv A outer s H E hv hr => by
    match x, vs, hv with
    | bits, [pa0], _ =>
      have nd := sc_window.nd
      show XG _ _ [some (aD K (Cd.d (bits : Int)))] (m_window bits) (oR fun r : Int => [some (aD K (Cd.d (r : Int))), none])
      unfold m_window
      exact (xg_bind fun x_1 hx_1 =>
  (xg_ret (A := aD K (Cd.d ((x_1 / 2) : Int))) (xe_div (by decide) (xc_ixT (xs := [1, 2, 4, 8, 16, 32, 64, 128]) (xe_gTup g_SIZES) (xe_nm 0 rfl) rtD hx_1) xe_int) (wk_k (wk_n wk_0))))
def m_UpperSender___init__ (bits : Int) : Option (Int × Int × (List (Int × (List Int)))) :=
  (some (bits, 0, ([] : (List (Int × (List Int))))))
abbrev sp_UpperSender___init__ (K : PySem.W.Frag) (cl_UpperSender : Addr) (cl_BearerError : Addr) (cl_NotValid : Addr) : Sp := SpM (fun x : Int => [aObj cl_UpperSender [] [], aD K (Cd.d (x : Int))]) (fun x => m_UpperSender___init__ x) (fun x (r : (Int × Int × (List (Int × (List Int))))) => [some (aObj cl_UpperSender ns_UpperSender [aD K (Cd.d (r.1 : Int)), aD K (Cd.d (r.2.1 : Int)), (aDK K (dD (r.2.2 : (List (Int × (List Int))))))]), none]) (fun _ r => aD K .none)
abbrev s_UpperSender___init__ : Stmt := inClass (topS 7) 0
theorem sc_UpperSender___init__ : FnScope ["self", "bits"] ["self", "bits"] (defScope s_UpperSender___init__) := ⟨rfl, rfl, rfl, by decide +kernel, rfl, by decide +kernel, by decide +kernel⟩
set_option maxHeartbeats 4000000 in
theorem ok_UpperSender___init__ {P : Program} {w : World} {K : PySem.W.Frag} {mg : Str → Option Value} {base : Heap} {f : Addr} {cl_UpperSender : Addr} {cl_BearerError : Addr} {cl_NotValid : Addr} {fd : FuncData} (F : Fun K "__init__" "UpperSender.__init__" s_UpperSender___init__ f fd) (T_UpperSender : CF_UpperSender K cl_UpperSender) (X_BearerError : ExK K mg "BearerError" cl_BearerError) (E_BearerError : ExcC K cl_BearerError) (X_NotValid : ExK K mg "NotValid" cl_NotValid) (E_NotValid : ExcC K cl_NotValid) (xm_NotValid_BearerError : PySem.W.exmOne K (.ref cl_NotValid) (.ref cl_BearerError) = some true) (xk_NotValid_NotValid : PySem.W.kitOne K (.ref cl_NotValid) (.ref cl_NotValid) = some true)  : FnOk P w K mg base CX0 1 f fd ["self", "bits"] (sp_UpperSender___init__ K cl_UpperSender cl_BearerError cl_NotValid) :=
  fn_okN (k := 0) [true, false] F sc_UpperSender___init__ rfl (fun _ => rfl) (fun _ _ => rfl) fun x vs cdv A outer s H E hv hr => by
    match x, vs, hv with
    | bits, [pa0, pa1], _ =>
      have nd := sc_UpperSender___init__.nd
      show XG _ _ [some (pin pa0 (aObj cl_UpperSender [] [])), some (aD K (Cd.d (bits : Int)))] (m_UpperSender___init__ bits) (oS fun r : (Int × Int × (List (Int × (List Int)))) => [some (pin pa0 (aObj cl_UpperSender ns_UpperSender [aD K (Cd.d (r.1 : Int)), aD K (Cd.d (r.2.1 : Int)), (aDK K (dD (r.2.2 : (List (Int × (List Int))))))])), none])
      unfold m_UpperSender___init__
      exact (xg_st [some (pin pa0 (aObj cl_UpperSender [] [])), some (aD K (Cd.d (bits : Int)))] rfl (xg_fldN (B := aD K (Cd.d (bits : Int))) (xe_nm 1 rfl) (xe_nmV 0 rfl) (Own.slot 0 rfl) T_UpperSender.cl T_UpperSender.n_bits (by decide +kernel) (xg_st [some (pin pa0 (aObj cl_UpperSender ["bits"] [aD K (Cd.d (bits : Int))])), some (aD K (Cd.d (bits : Int)))] rfl (xg_fldN (B := aD K (Cd.d (0 : Int))) xe_int (xe_nmV 0 rfl) (Own.slot 0 rfl) T_UpperSender.cl T_UpperSender.n_following (by decide +kernel) (xg_st [some (pin pa0 (aObj cl_UpperSender ["bits", "following"] [aD K (Cd.d (bits : Int)), aD K (Cd.d (0 : Int))])), some (aD K (Cd.d (bits : Int)))] rfl (xg_fldN (B := (aDK K (dD (([] : (List (Int × (List Int)))) : (List (Int × (List Int))))))) xe_dnew (xe_nmV 0 rfl) (Own.slot 0 rfl) T_UpperSender.cl T_UpperSender.n_packets (by decide +kernel) (xg_nilS (wk_k (wk_n wk_0)))))))))
def m_UpperSender_next_count (self : (Int × Int × (List (Int × (List Int))))) : Option Int :=
  (some self.2.1)
abbrev sp_UpperSender_next_count (K : PySem.W.Frag) (cl_UpperSender : Addr) (cl_BearerError : Addr) (cl_NotValid : Addr) : Sp := SpM (fun x : (Int × Int × (List (Int × (List Int)))) => [(aObj cl_UpperSender ns_UpperSender [aD K (Cd.d (x.1 : Int)), aD K (Cd.d (x.2.1 : Int)), (aDK K (dD (x.2.2 : (List (Int × (List Int))))))])]) (fun x => m_UpperSender_next_count x) (fun x (r : Int) => [some (aObj cl_UpperSender ns_UpperSender [aD K (Cd.d (x.1 : Int)), aD K (Cd.d (x.2.1 : Int)), (aDK K (dD (x.2.2 : (List (Int × (List Int))))))])]) (fun _ r => aD K (Cd.d (r : Int)))
abbrev s_UpperSender_next_count : Stmt := inClass (topS 7) 1
theorem sc_UpperSender_next_count : FnScope ["self"] ["self"] (defScope s_UpperSender_next_count) := ⟨rfl, rfl, rfl, by decide +kernel, rfl, by decide +kernel, by decide +kernel⟩
set_option maxHeartbeats 4000000 in
theorem ok_UpperSender_next_count {P : Program} {w : World} {K : PySem.W.Frag} {mg : Str → Option Value} {base : Heap} {f : Addr} {cl_UpperSender : Addr} {cl_BearerError : Addr} {cl_NotValid : Addr} {fd : FuncData} (F : Fun K "next_count" "UpperSender.next_count" s_UpperSender_next_count f fd) (T_UpperSender : CF_UpperSender K cl_UpperSender) (X_BearerError : ExK K mg "BearerError" cl_BearerError) (E_BearerError : ExcC K cl_BearerError) (X_NotValid : ExK K mg "NotValid" cl_NotValid) (E_NotValid : ExcC K cl_NotValid) (xm_NotValid_BearerError : PySem.W.exmOne K (.ref cl_NotValid) (.ref cl_BearerError) = some true) (xk_NotValid_NotValid : PySem.W.kitOne K (.ref cl_NotValid) (.ref cl_NotValid) = some true)  : FnOk P w K mg base CX0 1 f fd ["self"] (sp_UpperSender_next_count K cl_UpperSender cl_BearerError cl_NotValid) :=
  fn_ok (k := 0) [true] F sc_UpperSender_next_count rfl (fun _ => rfl) (fun _ _ => rfl) fun x vs cdv A outer s H E hv hr => by
    match x, vs, hv with
    | self, [pa0], _ =>
      have nd := sc_UpperSender_next_count.nd
      show XG _ _ [some (pin pa0 (aObj cl_UpperSender ns_UpperSender [aD K (Cd.d (self.1 : Int)), aD K (Cd.d (self.2.1 : Int)), (aDK K (dD (self.2.2 : (List (Int × (List Int))))))]))] (m_UpperSender_next_count self) (oR fun r : Int => [some (aD K (Cd.d (r : Int))), some (pin pa0 (aObj cl_UpperSender ns_UpperSender [aD K (Cd.d (self.1 : Int)), aD K (Cd.d (self.2.1 : Int)), (aDK K (dD (self.2.2 : (List (Int × (List Int))))))]))])
      unfold m_UpperSender_next_count
      exact (xg_ret (A := aD K (Cd.d (self.2.1 : Int))) (xe_fldD 1 (xe_nmV 0 rfl) (Own.slot 0 rfl) T_UpperSender.cl T_UpperSender.n_following nd_UpperSender rfl rfl) (wk_k (wk_k wk_0)))
def m_UpperSender_base (self : (Int × Int × (List (Int × (List Int))))) : Option Int :=
  (if (!(!List.isEmpty self.2.2)) = true then
  (some self.2.1) else
  (Option.bind (minI (dKeys self.2.2)) fun min_3 =>
  (some min_3)))
abbrev sp_UpperSender_base (K : PySem.W.Frag) (cl_UpperSender : Addr) (cl_BearerError : Addr) (cl_NotValid : Addr) : Sp := SpM (fun x : (Int × Int × (List (Int × (List Int)))) => [(aObj cl_UpperSender ns_UpperSender [aD K (Cd.d (x.1 : Int)), aD K (Cd.d (x.2.1 : Int)), (aDK K (dD (x.2.2 : (List (Int × (List Int))))))])]) (fun x => m_UpperSender_base x) (fun x (r : Int) => [some (aObj cl_UpperSender ns_UpperSender [aD K (Cd.d (x.1 : Int)), aD K (Cd.d (x.2.1 : Int)), (aDK K (dD (x.2.2 : (List (Int × (List Int))))))])]) (fun _ r => aD K (Cd.d (r : Int)))
abbrev s_UpperSender_base : Stmt := inClass (topS 7) 2
theorem sc_UpperSender_base : FnScope ["self"] ["self"] (defScope s_UpperSender_base) := ⟨rfl, rfl, rfl, by decide +kernel, rfl, by decide +kernel, by decide +kernel⟩
set_option maxHeartbeats 4000000 in
theorem ok_UpperSender_base {P : Program} {w : World} {K : PySem.W.Frag} {mg : Str → Option Value} {base : Heap} {f : Addr} {cl_UpperSender : Addr} {cl_BearerError : Addr} {cl_NotValid : Addr} {fd : FuncData} (F : Fun K "base" "UpperSender.base" s_UpperSender_base f fd) (T_UpperSender : CF_UpperSender K cl_UpperSender) (X_BearerError : ExK K mg "BearerError" cl_BearerError) (E_BearerError : ExcC K cl_BearerError) (X_NotValid : ExK K mg "NotValid" cl_NotValid) (E_NotValid : ExcC K cl_NotValid) (xm_NotValid_BearerError : PySem.W.exmOne K (.ref cl_NotValid) (.ref cl_BearerError) = some true) (xk_NotValid_NotValid : PySem.W.kitOne K (.ref cl_NotValid) (.ref cl_NotValid) = some true) (m_min : mg "min" = none) : FnOk P w K mg base CX0 1 f fd ["self"] (sp_UpperSender_base K cl_UpperSender cl_BearerError cl_NotValid) :=
  fn_ok (k := 0) [true] F sc_UpperSender_base rfl (fun _ => rfl) (fun _ _ => rfl) fun x vs cdv A outer s H E hv hr => by
    match x, vs, hv with
    | self, [pa0], _ =>
      have nd := sc_UpperSender_base.nd
      show XG _ _ [some (pin pa0 (aObj cl_UpperSender ns_UpperSender [aD K (Cd.d (self.1 : Int)), aD K (Cd.d (self.2.1 : Int)), (aDK K (dD (self.2.2 : (List (Int × (List Int))))))]))] (m_UpperSender_base self) (oR fun r : Int => [some (aD K (Cd.d (r : Int))), some (pin pa0 (aObj cl_UpperSender ns_UpperSender [aD K (Cd.d (self.1 : Int)), aD K (Cd.d (self.2.1 : Int)), (aDK K (dD (self.2.2 : (List (Int × (List Int))))))]))])
      unfold m_UpperSender_base
      exact (xg_pinf 0 2 rfl rfl fun pv_2 => (xg_st [some (pin pa0 (aObj cl_UpperSender ns_UpperSender [aD K (Cd.d (self.1 : Int)), aD K (Cd.d (self.2.1 : Int)), (pin pv_2 (aDK K (dD (self.2.2 : (List (Int × (List Int)))))))]))] rfl (xg_ifR (u := []) (xt_not (xt_dict (kvs := self.2.2) (xe_fldV 2 (xe_nmV 0 rfl) (Own.slot 0 rfl) T_UpperSender.cl T_UpperSender.n_packets nd_UpperSender rfl rfl) (Own.fld (Own.slot 0 rfl) 2 rfl))) (fun _ => (xg_ret (A := aD K (Cd.d (self.2.1 : Int))) (xe_weak (ρ1 := [some (pin pa0 (aObj cl_UpperSender ns_UpperSender [aD K (Cd.d (self.1 : Int)), aD K (Cd.d (self.2.1 : Int)), (pin pv_2 (aDK K (dD (self.2.2 : (List (Int × (List Int)))))))]))]) (xe_fldD 1 (xe_nmV 0 rfl) (Own.slot 0 rfl) T_UpperSender.cl T_UpperSender.n_following nd_UpperSender rfl rfl) 0 rfl (imp_pin (imp_obj (.cons imp_rfl (.cons imp_rfl (.cons imp_unpin .nil)))))) (wk_k (wk_k wk_0)))) (fun _ => (xg_bind fun min_3 hmin_3 =>
  (xg_ret (A := aD K (Cd.d (min_3 : Int))) (xe_weak (ρ1 := [some (pin pa0 (aObj cl_UpperSender ns_UpperSender [aD K (Cd.d (self.1 : Int)), aD K (Cd.d (self.2.1 : Int)), (pin pv_2 (aDK K (dD (self.2.2 : (List (Int × (List Int)))))))]))]) (xe_dmin (kvs := self.2.2) rfl hmin_3 (xe_fldV 2 (xe_nmV 0 rfl) (Own.slot 0 rfl) T_UpperSender.cl T_UpperSender.n_packets nd_UpperSender rfl rfl) (Own.fld (Own.slot 0 rfl) 2 rfl) m_min) 0 rfl (imp_pin (imp_obj (.cons imp_rfl (.cons imp_rfl (.cons imp_unpin .nil)))))) (wk_k (wk_k wk_0))))))))
def m_UpperSender_may_add (self : (Int × Int × (List (Int × (List Int))))) : Option Bool :=
  (Option.bind (m_UpperSender_base self) fun v_4 =>
  (Option.bind (m_window self.1) fun v_5 =>
  (some (decide ((self.2.1 - v_4) < v_5)))))
abbrev sp_UpperSender_may_add (K : PySem.W.Frag) (cl_UpperSender : Addr) (cl_BearerError : Addr) (cl_NotValid : Addr) : Sp := SpM (fun x : (Int × Int × (List (Int × (List Int)))) => [(aObj cl_UpperSender ns_UpperSender [aD K (Cd.d (x.1 : Int)), aD K (Cd.d (x.2.1 : Int)), (aDK K (dD (x.2.2 : (List (Int × (List Int))))))])]) (fun x => m_UpperSender_may_add x) (fun x (r : Bool) => [some (aObj cl_UpperSender ns_UpperSender [aD K (Cd.d (x.1 : Int)), aD K (Cd.d (x.2.1 : Int)), (aDK K (dD (x.2.2 : (List (Int × (List Int))))))])]) (fun _ r => aD K (Cd.d (r : Bool)))
abbrev s_UpperSender_may_add : Stmt := inClass (topS 7) 3
theorem sc_UpperSender_may_add : FnScope ["self"] ["self"] (defScope s_UpperSender_may_add) := ⟨rfl, rfl, rfl, by decide +kernel, rfl, by decide +kernel, by decide +kernel⟩
set_option maxHeartbeats 4000000 in
theorem ok_UpperSender_may_add {P : Program} {w : World} {K : PySem.W.Frag} {mg : Str → Option Value} {base : Heap} {f : Addr} {cl_UpperSender : Addr} {cl_BearerError : Addr} {cl_NotValid : Addr} {fd : FuncData} (F : Fun K "may_add" "UpperSender.may_add" s_UpperSender_may_add f fd) (T_UpperSender : CF_UpperSender K cl_UpperSender) (X_BearerError : ExK K mg "BearerError" cl_BearerError) (E_BearerError : ExcC K cl_BearerError) (X_NotValid : ExK K mg "NotValid" cl_NotValid) (E_NotValid : ExcC K cl_NotValid) (xm_NotValid_BearerError : PySem.W.exmOne K (.ref cl_NotValid) (.ref cl_BearerError) = some true) (xk_NotValid_NotValid : PySem.W.kitOne K (.ref cl_NotValid) (.ref cl_NotValid) = some true)  (c_UpperSender_base : CalM P w K mg base 1 cl_UpperSender "base" (sp_UpperSender_base K cl_UpperSender cl_BearerError cl_NotValid)) (c_window : Cal P w K mg base 1 "window" (sp_window K cl_UpperSender cl_BearerError cl_NotValid)) : FnOk P w K mg base CX0 2 f fd ["self"] (sp_UpperSender_may_add K cl_UpperSender cl_BearerError cl_NotValid) :=
  fn_ok (k := 1) [true] F sc_UpperSender_may_add rfl (fun _ => rfl) (fun _ _ => rfl) fun x vs cdv A outer s H E hv hr => by
    match x, vs, hv with
    | self, [pa0], _ =>
      have nd := sc_UpperSender_may_add.nd
      show XG _ _ [some (pin pa0 (aObj cl_UpperSender ns_UpperSender [aD K (Cd.d (self.1 : Int)), aD K (Cd.d (self.2.1 : Int)), (aDK K (dD (self.2.2 : (List (Int × (List Int))))))]))] (m_UpperSender_may_add self) (oR fun r : Bool => [some (aD K (Cd.d (r : Bool))), some (pin pa0 (aObj cl_UpperSender ns_UpperSender [aD K (Cd.d (self.1 : Int)), aD K (Cd.d (self.2.1 : Int)), (aDK K (dD (self.2.2 : (List (Int × (List Int))))))]))])
      unfold m_UpperSender_may_add
      exact (xg_bind fun v_4 hv_4 =>
  (xg_bind fun v_5 hv_5 =>
  (xg_ret (A := aD K (Cd.d ((decide ((self.2.1 - v_4) < v_5)) : Bool))) (xe_k (xk_lt (xe_sub (xe_fldD 1 (xe_nmV 0 rfl) (Own.slot 0 rfl) T_UpperSender.cl T_UpperSender.n_following nd_UpperSender rfl rfl) (xe_meth0 (xx := self) c_UpperSender_base T_UpperSender.cl nm_UpperSender_base (hr.mono (by decide)) hv_4 (xe_nmV 0 rfl) (Own.slot 0 rfl) rfl rfl rfl rfl)) (xe_call (xx := self.1) c_window (hr.mono (by decide)) hv_5 (xl_of (xa_cons (xe_fldD 0 (xe_nmV 0 rfl) (Own.slot 0 rfl) T_UpperSender.cl T_UpperSender.n_bits nd_UpperSender rfl rfl) xa_nil)) rfl (by simp) (by simp) (List.forall_mem_nil _) rfl rfl))) (wk_k (wk_k wk_0)))))
def m_UpperSender_add (self : (Int × Int × (List (Int × (List Int))))) (packet : (List Int)) : Option (Int × (Int × Int × (List (Int × (List Int)))) × (List Int)) :=
  (Option.bind (m_UpperSender_may_add self) fun v_6 =>
  (if (!v_6) = true then
  none else
  (Option.bind (guardO (List.length self.2.2 < 1000000)) fun g_8 =>
  (lett ((self.2.1 + 1) : Int) fun following_9 =>
  (some (self.2.1, (self.1, following_9, (dPut self.2.2 self.2.1 packet)), packet))))))
abbrev sp_UpperSender_add (K : PySem.W.Frag) (cl_UpperSender : Addr) (cl_BearerError : Addr) (cl_NotValid : Addr) : Sp := SpM (fun x : ((Int × Int × (List (Int × (List Int)))) × (List Int)) => [(aObj cl_UpperSender ns_UpperSender [aD K (Cd.d (x.1.1 : Int)), aD K (Cd.d (x.1.2.1 : Int)), (aDK K (dD (x.1.2.2 : (List (Int × (List Int))))))]), (aLD K (List.map Cd.d (x.2 : List Int)))]) (fun x => m_UpperSender_add x.1 x.2) (fun x (r : (Int × (Int × Int × (List (Int × (List Int)))) × (List Int))) => [some (aObj cl_UpperSender ns_UpperSender [aD K (Cd.d (r.2.1.1 : Int)), aD K (Cd.d (r.2.1.2.1 : Int)), (aDK K (dD (r.2.1.2.2 : (List (Int × (List Int))))))]), some (aLD K (List.map Cd.d (r.2.2 : List Int)))]) (fun _ r => aD K (Cd.d (r.1 : Int)))
abbrev s_UpperSender_add : Stmt := inClass (topS 7) 4
theorem sc_UpperSender_add : FnScope ["self", "packet", "count"] ["self", "packet"] (defScope s_UpperSender_add) := ⟨rfl, rfl, rfl, by decide +kernel, rfl, by decide +kernel, by decide +kernel⟩
set_option maxHeartbeats 4000000 in
theorem ok_UpperSender_add {P : Program} {w : World} {K : PySem.W.Frag} {mg : Str → Option Value} {base : Heap} {f : Addr} {cl_UpperSender : Addr} {cl_BearerError : Addr} {cl_NotValid : Addr} {fd : FuncData} (F : Fun K "add" "UpperSender.add" s_UpperSender_add f fd) (T_UpperSender : CF_UpperSender K cl_UpperSender) (X_BearerError : ExK K mg "BearerError" cl_BearerError) (E_BearerError : ExcC K cl_BearerError) (X_NotValid : ExK K mg "NotValid" cl_NotValid) (E_NotValid : ExcC K cl_NotValid) (xm_NotValid_BearerError : PySem.W.exmOne K (.ref cl_NotValid) (.ref cl_BearerError) = some true) (xk_NotValid_NotValid : PySem.W.kitOne K (.ref cl_NotValid) (.ref cl_NotValid) = some true) (m_list : mg "list" = none) (c_UpperSender_may_add : CalM P w K mg base 2 cl_UpperSender "may_add" (sp_UpperSender_may_add K cl_UpperSender cl_BearerError cl_NotValid)) : FnOk P w K mg base CX0 3 f fd ["self", "packet"] (sp_UpperSender_add K cl_UpperSender cl_BearerError cl_NotValid) :=
  fn_ok (k := 2) [true, true] F sc_UpperSender_add rfl (fun _ => rfl) (fun _ _ => rfl) fun x vs cdv A outer s H E hv hr => by
    match x, vs, hv with
    | (self, packet), [pa0, pa1], _ =>
      have nd := sc_UpperSender_add.nd
      show XG _ _ [some (pin pa0 (aObj cl_UpperSender ns_UpperSender [aD K (Cd.d (self.1 : Int)), aD K (Cd.d (self.2.1 : Int)), (aDK K (dD (self.2.2 : (List (Int × (List Int))))))])), some (pin pa1 (aLD K (List.map Cd.d (packet : List Int)))), none] (m_UpperSender_add self packet) (oR fun r : (Int × (Int × Int × (List (Int × (List Int)))) × (List Int)) => [some (aD K (Cd.d (r.1 : Int))), some (pin pa0 (aObj cl_UpperSender ns_UpperSender [aD K (Cd.d (r.2.1.1 : Int)), aD K (Cd.d (r.2.1.2.1 : Int)), (aDK K (dD (r.2.1.2.2 : (List (Int × (List Int))))))])), some (pin pa1 (aLD K (List.map Cd.d (r.2.2 : List Int)))), none])
      unfold m_UpperSender_add
      exact (xg_st [some (pin pa0 (aObj cl_UpperSender ns_UpperSender [aD K (Cd.d (self.1 : Int)), aD K (Cd.d (self.2.1 : Int)), (aDK K (dD (self.2.2 : (List (Int × (List Int))))))])), some (pin pa1 (aLD K (List.map Cd.d (packet : List Int)))), none] rfl (xg_bind fun v_6 hv_6 =>
  (xg_ifR (u := []) (xt_not (xt_v (xe_meth0 (xx := self) c_UpperSender_may_add T_UpperSender.cl nm_UpperSender_may_add (hr.mono (by decide)) hv_6 (xe_nmV 0 rfl) (Own.slot 0 rfl) rfl rfl rfl rfl))) (fun _ => (xg_st [some (pin pa0 (aObj cl_UpperSender ns_UpperSender [aD K (Cd.d (self.1 : Int)), aD K (Cd.d (self.2.1 : Int)), (aDK K (dD (self.2.2 : (List (Int × (List Int))))))])), some (pin pa1 (aLD K (List.map Cd.d (packet : List Int)))), none] rfl xg_none)) (fun _ => (xg_st [some (pin pa0 (aObj cl_UpperSender ns_UpperSender [aD K (Cd.d (self.1 : Int)), aD K (Cd.d (self.2.1 : Int)), (aDK K (dD (self.2.2 : (List (Int × (List Int))))))])), some (pin pa1 (aLD K (List.map Cd.d (packet : List Int)))), none] rfl (xg_asg 2 (A := aD K (Cd.d (self.2.1 : Int))) (xe_fldD 1 (xe_nmV 0 rfl) (Own.slot 0 rfl) T_UpperSender.cl T_UpperSender.n_following nd_UpperSender rfl rfl) (xg_pinf 0 2 rfl rfl fun pv_7 => (xg_st [some (pin pa0 (aObj cl_UpperSender ns_UpperSender [aD K (Cd.d (self.1 : Int)), aD K (Cd.d (self.2.1 : Int)), (pin pv_7 (aDK K (dD (self.2.2 : (List (Int × (List Int)))))))])), some (pin pa1 (aLD K (List.map Cd.d (packet : List Int)))), some (aD K (Cd.d (self.2.1 : Int)))] rfl (xg_bind fun g_8 hg_8 =>
  (xg_dput (kvs := self.2.2) (x := packet) hr.units (guardO_eq hg_8) (xe_frz (xe_list (xe_nmV 1 rfl) (Rlm.ls (rmW (Own.slot 1 rfl))) m_list)) (xe_fldV 2 (xe_nmV 0 rfl) (Own.slot 0 rfl) T_UpperSender.cl T_UpperSender.n_packets nd_UpperSender rfl rfl) (xe_nm 2 rfl) (Own.fld (Own.slot 0 rfl) 2 rfl) (xg_st [some (pin pa0 (aObj cl_UpperSender ns_UpperSender [aD K (Cd.d (self.1 : Int)), aD K (Cd.d (self.2.1 : Int)), (pin pv_7 (aDK K (dD ((dPut self.2.2 self.2.1 packet) : (List (Int × (List Int)))))))])), some (pin pa1 (aLD K (List.map Cd.d (packet : List Int)))), some (aD K (Cd.d (self.2.1 : Int)))] rfl (xg_lett fun following_9 hfollowing_9 =>
  (xg_fld 1 (B := aD K (Cd.d (following_9 : Int))) (xe_nv (v := ((self.2.1 + 1) : Int)) (xe_add (xe_nm 2 rfl) xe_int) hfollowing_9) (xe_nmV 0 rfl) (Own.slot 0 rfl) T_UpperSender.cl T_UpperSender.n_following nd_UpperSender rfl (xg_ret (A := aD K (Cd.d (self.2.1 : Int))) (xe_weak (ρ1 := [some (pin pa0 (aObj cl_UpperSender ns_UpperSender [aD K (Cd.d (self.1 : Int)), aD K (Cd.d (following_9 : Int)), (pin pv_7 (aDK K (dD ((dPut self.2.2 self.2.1 packet) : (List (Int × (List Int)))))))])), some (pin pa1 (aLD K (List.map Cd.d (packet : List Int)))), some (aD K (Cd.d (self.2.1 : Int)))]) (xe_nm 2 rfl) 0 rfl (imp_pin (imp_obj (.cons imp_rfl (.cons imp_rfl (.cons imp_unpin .nil)))))) (wk_k (wk_k (wk_k (wk_n wk_0))))))))))))))))))
def mz_UpperSender_add (self : (Int × Int × (List (Int × (List Int))))) (packet : (List Int)) : Option ((Int × Int × (List (Int × (List Int)))) × (List Int)) :=
  (Option.bind (m_UpperSender_may_add self) fun v_10 =>
  (if (!v_10) = true then
  (some (self, packet)) else
  none))
abbrev spz_UpperSender_add (K : PySem.W.Frag) (cl_UpperSender : Addr) (cl_BearerError : Addr) (cl_NotValid : Addr) : Sp := SpZ (fun x : ((Int × Int × (List (Int × (List Int)))) × (List Int)) => [(aObj cl_UpperSender ns_UpperSender [aD K (Cd.d (x.1.1 : Int)), aD K (Cd.d (x.1.2.1 : Int)), (aDK K (dD (x.1.2.2 : (List (Int × (List Int))))))]), (aLD K (List.map Cd.d (x.2 : List Int)))]) (fun x => mz_UpperSender_add x.1 x.2) (fun x (r : ((Int × Int × (List (Int × (List Int)))) × (List Int))) => [some (aObj cl_UpperSender ns_UpperSender [aD K (Cd.d (r.1.1 : Int)), aD K (Cd.d (r.1.2.1 : Int)), (aDK K (dD (r.1.2.2 : (List (Int × (List Int))))))]), some (aLD K (List.map Cd.d (r.2 : List Int)))]) (.ref cl_NotValid)
set_option maxHeartbeats 4000000 in
theorem okz_UpperSender_add {P : Program} {w : World} {K : PySem.W.Frag} {mg : Str → Option Value} {base : Heap} {f : Addr} {cl_UpperSender : Addr} {cl_BearerError : Addr} {cl_NotValid : Addr} {fd : FuncData} (F : Fun K "add" "UpperSender.add" s_UpperSender_add f fd) (T_UpperSender : CF_UpperSender K cl_UpperSender) (X_BearerError : ExK K mg "BearerError" cl_BearerError) (E_BearerError : ExcC K cl_BearerError) (X_NotValid : ExK K mg "NotValid" cl_NotValid) (E_NotValid : ExcC K cl_NotValid) (xm_NotValid_BearerError : PySem.W.exmOne K (.ref cl_NotValid) (.ref cl_BearerError) = some true) (xk_NotValid_NotValid : PySem.W.kitOne K (.ref cl_NotValid) (.ref cl_NotValid) = some true)  (c_UpperSender_may_add : CalM P w K mg base 2 cl_UpperSender "may_add" (sp_UpperSender_may_add K cl_UpperSender cl_BearerError cl_NotValid)) : FnOk P w K mg base (L2.CX P w) 3 f fd ["self", "packet"] (spz_UpperSender_add K cl_UpperSender cl_BearerError cl_NotValid) :=
  fn_okZ (k := 2) [true, true] F sc_UpperSender_add rfl (fun _ => rfl) (fun _ _ => rfl) fun x vs cdv A outer s H E W hv hr tk pw => by
    match x, vs, hv with
    | (self, packet), [pa0, pa1], _ =>
      have nd := sc_UpperSender_add.nd
      show XG _ _ [some (pin pa0 (aObj cl_UpperSender ns_UpperSender [aD K (Cd.d (self.1 : Int)), aD K (Cd.d (self.2.1 : Int)), (aDK K (dD (self.2.2 : (List (Int × (List Int))))))])), some (pin pa1 (aLD K (List.map Cd.d (packet : List Int)))), none] (mz_UpperSender_add self packet) (oZ W (.ref cl_NotValid) fun r : ((Int × Int × (List (Int × (List Int)))) × (List Int)) => [some (pin pa0 (aObj cl_UpperSender ns_UpperSender [aD K (Cd.d (r.1.1 : Int)), aD K (Cd.d (r.1.2.1 : Int)), (aDK K (dD (r.1.2.2 : (List (Int × (List Int))))))])), some (pin pa1 (aLD K (List.map Cd.d (r.2 : List Int)))), none])
      unfold mz_UpperSender_add
      exact (xg_st [some (pin pa0 (aObj cl_UpperSender ns_UpperSender [aD K (Cd.d (self.1 : Int)), aD K (Cd.d (self.2.1 : Int)), (aDK K (dD (self.2.2 : (List (Int × (List Int))))))])), some (pin pa1 (aLD K (List.map Cd.d (packet : List Int)))), none] rfl (xg_bind fun v_10 hv_10 =>
  (xg_ifZR (xt_not (xt_v (xe_meth0 (xx := self) c_UpperSender_may_add T_UpperSender.cl nm_UpperSender_may_add (hr.mono (by decide)) hv_10 (xe_nmV 0 rfl) (Own.slot 0 rfl) rfl rfl rfl rfl))) (fun _ => (xg_st [some (pin pa0 (aObj cl_UpperSender ns_UpperSender [aD K (Cd.d (self.1 : Int)), aD K (Cd.d (self.2.1 : Int)), (aDK K (dD (self.2.2 : (List (Int × (List Int))))))])), some (pin pa1 (aLD K (List.map Cd.d (packet : List Int)))), none] rfl (xg_raise X_NotValid tk rfl (wk_k (wk_k (wk_n wk_0)))))) (fun _ => xg_none))))
def m_UpperSender_unconfirmed (self : (Int × Int × (List (Int × (List Int))))) : Option (List (Int × (List Int))) :=
  (Option.bind (guardO (List.length self.2.2 < 64)) fun g_12 =>
  (Option.bind (mapO (fun count_13 : Int => (Option.bind (dGet self.2.2 count_13) fun d_14 => (some (count_13, d_14)))) (srtI (dKeys self.2.2))) fun ys_15 =>
  (some ys_15)))
abbrev sp_UpperSender_unconfirmed (K : PySem.W.Frag) (cl_UpperSender : Addr) (cl_BearerError : Addr) (cl_NotValid : Addr) : Sp := SpM (fun x : (Int × Int × (List (Int × (List Int)))) => [(aObj cl_UpperSender ns_UpperSender [aD K (Cd.d (x.1 : Int)), aD K (Cd.d (x.2.1 : Int)), (aDK K (dD (x.2.2 : (List (Int × (List Int))))))])]) (fun x => m_UpperSender_unconfirmed x) (fun x (r : (List (Int × (List Int)))) => [some (aObj cl_UpperSender ns_UpperSender [aD K (Cd.d (x.1 : Int)), aD K (Cd.d (x.2.1 : Int)), (aDK K (dD (x.2.2 : (List (Int × (List Int))))))])]) (fun _ r => (aLP K (r : (List (Int × (List Int))))))
abbrev s_UpperSender_unconfirmed : Stmt := inClass (topS 7) 5
theorem sc_UpperSender_unconfirmed : FnScope ["self", "count"] ["self"] (defScope s_UpperSender_unconfirmed) := ⟨rfl, rfl, rfl, by decide +kernel, rfl, by decide +kernel, by decide +kernel⟩
set_option maxHeartbeats 4000000 in
theorem ok_UpperSender_unconfirmed {P : Program} {w : World} {K : PySem.W.Frag} {mg : Str → Option Value} {base : Heap} {f : Addr} {cl_UpperSender : Addr} {cl_BearerError : Addr} {cl_NotValid : Addr} {fd : FuncData} (F : Fun K "unconfirmed" "UpperSender.unconfirmed" s_UpperSender_unconfirmed f fd) (T_UpperSender : CF_UpperSender K cl_UpperSender) (X_BearerError : ExK K mg "BearerError" cl_BearerError) (E_BearerError : ExcC K cl_BearerError) (X_NotValid : ExK K mg "NotValid" cl_NotValid) (E_NotValid : ExcC K cl_NotValid) (xm_NotValid_BearerError : PySem.W.exmOne K (.ref cl_NotValid) (.ref cl_BearerError) = some true) (xk_NotValid_NotValid : PySem.W.kitOne K (.ref cl_NotValid) (.ref cl_NotValid) = some true) (m_list : mg "list" = none) (m_sorted : mg "sorted" = none) : FnOk P w K mg base CX0 1 f fd ["self"] (sp_UpperSender_unconfirmed K cl_UpperSender cl_BearerError cl_NotValid) :=
  fn_ok (k := 0) [true] F sc_UpperSender_unconfirmed rfl (fun _ => rfl) (fun _ _ => rfl) fun x vs cdv A outer s H E hv hr => by
    match x, vs, hv with
    | self, [pa0], _ =>
      have nd := sc_UpperSender_unconfirmed.nd
      show XG _ _ [some (pin pa0 (aObj cl_UpperSender ns_UpperSender [aD K (Cd.d (self.1 : Int)), aD K (Cd.d (self.2.1 : Int)), (aDK K (dD (self.2.2 : (List (Int × (List Int))))))])), none] (m_UpperSender_unconfirmed self) (oR fun r : (List (Int × (List Int))) => [some ((aLP K (r : (List (Int × (List Int)))))), some (pin pa0 (aObj cl_UpperSender ns_UpperSender [aD K (Cd.d (self.1 : Int)), aD K (Cd.d (self.2.1 : Int)), (aDK K (dD (self.2.2 : (List (Int × (List Int))))))])), none])
      unfold m_UpperSender_unconfirmed
      exact (xg_pinf 0 2 rfl rfl fun pv_11 => (xg_bind fun g_12 hg_12 =>
  (xg_bind fun ys_15 hys_15 =>
  (xg_ret (A := (aLP K (ys_15 : (List (Int × (List Int)))))) (xe_weak (ρ1 := [some (pin pa0 (aObj cl_UpperSender ns_UpperSender [aD K (Cd.d (self.1 : Int)), aD K (Cd.d (self.2.1 : Int)), (pin pv_11 (aDK K (dD (self.2.2 : (List (Int × (List Int)))))))])), none]) (xe_lc (xc_imp (B := aLP K (ys_15 : List (Int × (List Int)))) (xc_mapO 1 hys_15 (xi_list (xs := (srtI (dKeys self.2.2))) (cv := Cd.d) (xe_frz (xe_dsorted (kvs := self.2.2) rfl (guardO_eq hg_12) (xe_fldV 2 (xe_nmV 0 rfl) (Own.slot 0 rfl) T_UpperSender.cl T_UpperSender.n_packets nd_UpperSender rfl rfl) (Own.fld (Own.slot 0 rfl) 2 rfl) m_sorted))) trivial (Nat.le_of_ble_eq_true rfl) (el := fun y => aPr K (y : (Int × (List Int)))) (fun _ _ _ _ _ count_13 => (xem_bind fun d_14 hd_14 => (xem_some (xe_tupO (xa_cons (xe_nm 1 rfl) (xa_cons (xe_list (xe_dget (kvs := self.2.2) hr.units hd_14 (xe_fldV 2 (xe_nmV 0 rfl) (Own.slot 0 rfl) T_UpperSender.cl T_UpperSender.n_packets nd_UpperSender rfl rfl) (xe_nm 1 rfl) (Own.fld (Own.slot 0 rfl) 2 rfl)) rlD m_list) xa_nil)) (Nat.le_of_ble_eq_true rfl)))))) rfl) rfl nd (blkOk_by (N := ["self", "count"]) (sc := defScope s_UpperSender_unconfirmed) (by decide +kernel)) (fun _ _ _ _ _ => pg_name nd rfl (.inl rfl))) 0 rfl (imp_pin (imp_obj (.cons imp_rfl (.cons imp_rfl (.cons imp_unpin .nil)))))) (wk_k (wk_k (wk_n wk_0)))))))
def m_UpperSender_confirm (self : (Int × Int × (List (Int × (List Int))))) (count : Int) : Option (Int × Int × (List (Int × (List Int)))) :=
  (Option.bind (if (dHas self.2.2 count) = true then
  (Option.bind (guardO (dHas self.2.2 count = true)) fun g_19 =>
  (some (self.1, self.2.1, (dDel self.2.2 count)))) else
  (some self)) fun s_18 =>
  (some s_18))
abbrev sp_UpperSender_confirm (K : PySem.W.Frag) (cl_UpperSender : Addr) (cl_BearerError : Addr) (cl_NotValid : Addr) : Sp := SpM (fun x : ((Int × Int × (List (Int × (List Int)))) × Int) => [(aObj cl_UpperSender ns_UpperSender [aD K (Cd.d (x.1.1 : Int)), aD K (Cd.d (x.1.2.1 : Int)), (aDK K (dD (x.1.2.2 : (List (Int × (List Int))))))]), aD K (Cd.d (x.2 : Int))]) (fun x => m_UpperSender_confirm x.1 x.2) (fun x (r : (Int × Int × (List (Int × (List Int))))) => [some (aObj cl_UpperSender ns_UpperSender [aD K (Cd.d (r.1 : Int)), aD K (Cd.d (r.2.1 : Int)), (aDK K (dD (r.2.2 : (List (Int × (List Int))))))]), none]) (fun _ r => aD K .none)
abbrev s_UpperSender_confirm : Stmt := inClass (topS 7) 6
theorem sc_UpperSender_confirm : FnScope ["self", "count"] ["self", "count"] (defScope s_UpperSender_confirm) := ⟨rfl, rfl, rfl, by decide +kernel, rfl, by decide +kernel, by decide +kernel⟩
set_option maxHeartbeats 4000000 in
theorem ok_UpperSender_confirm {P : Program} {w : World} {K : PySem.W.Frag} {mg : Str → Option Value} {base : Heap} {f : Addr} {cl_UpperSender : Addr} {cl_BearerError : Addr} {cl_NotValid : Addr} {fd : FuncData} (F : Fun K "confirm" "UpperSender.confirm" s_UpperSender_confirm f fd) (T_UpperSender : CF_UpperSender K cl_UpperSender) (X_BearerError : ExK K mg "BearerError" cl_BearerError) (E_BearerError : ExcC K cl_BearerError) (X_NotValid : ExK K mg "NotValid" cl_NotValid) (E_NotValid : ExcC K cl_NotValid) (xm_NotValid_BearerError : PySem.W.exmOne K (.ref cl_NotValid) (.ref cl_BearerError) = some true) (xk_NotValid_NotValid : PySem.W.kitOne K (.ref cl_NotValid) (.ref cl_NotValid) = some true)  : FnOk P w K mg base CX0 1 f fd ["self", "count"] (sp_UpperSender_confirm K cl_UpperSender cl_BearerError cl_NotValid) :=
  fn_okN (k := 0) [true, false] F sc_UpperSender_confirm rfl (fun _ => rfl) (fun _ _ => rfl) fun x vs cdv A outer s H E hv hr => by
    match x, vs, hv with
    | (self, count), [pa0, pa1], _ =>
      have nd := sc_UpperSender_confirm.nd
      show XG _ _ [some (pin pa0 (aObj cl_UpperSender ns_UpperSender [aD K (Cd.d (self.1 : Int)), aD K (Cd.d (self.2.1 : Int)), (aDK K (dD (self.2.2 : (List (Int × (List Int))))))])), some (aD K (Cd.d (count : Int)))] (m_UpperSender_confirm self count) (oS fun r : (Int × Int × (List (Int × (List Int)))) => [some (pin pa0 (aObj cl_UpperSender ns_UpperSender [aD K (Cd.d (r.1 : Int)), aD K (Cd.d (r.2.1 : Int)), (aDK K (dD (r.2.2 : (List (Int × (List Int))))))])), none])
      unfold m_UpperSender_confirm
      exact (xg_pinf 0 2 rfl rfl fun pv_16 => (xg_st [some (pin pa0 (aObj cl_UpperSender ns_UpperSender [aD K (Cd.d (self.1 : Int)), aD K (Cd.d (self.2.1 : Int)), (pin pv_16 (aDK K (dD (self.2.2 : (List (Int × (List Int)))))))])), some (aD K (Cd.d (count : Int)))] rfl (xg_if (N := (fun s_18 : (Int × Int × (List (Int × (List Int)))) => [some (pin pa0 (aObj cl_UpperSender ns_UpperSender [aD K (Cd.d (s_18.1 : Int)), aD K (Cd.d (s_18.2.1 : Int)), (aDK K (dD (s_18.2.2 : (List (Int × (List Int))))))])), some (aD K (Cd.d (count : Int)))])) (xt_k (xk_din (kvs := self.2.2) (k := count) hr.units (xe_nm 1 rfl) (xe_fldV 2 (xe_nmV 0 rfl) (Own.slot 0 rfl) T_UpperSender.cl T_UpperSender.n_packets nd_UpperSender rfl rfl) (Own.fld (Own.slot 0 rfl) 2 rfl))) (fun _ => (xg_st [some (pin pa0 (aObj cl_UpperSender ns_UpperSender [aD K (Cd.d (self.1 : Int)), aD K (Cd.d (self.2.1 : Int)), (pin pv_16 (aDK K (dD (self.2.2 : (List (Int × (List Int)))))))])), some (aD K (Cd.d (count : Int)))] rfl (xg_bind fun g_19 hg_19 =>
  (xg_ddel (kvs := self.2.2) (guardO_eq hg_19) (xe_fldV 2 (xe_nmV 0 rfl) (Own.slot 0 rfl) T_UpperSender.cl T_UpperSender.n_packets nd_UpperSender rfl rfl) (xe_nm 1 rfl) (Own.fld (Own.slot 0 rfl) 2 rfl) (by exact xg_weak (ρ := [some (pin pa0 (aObj cl_UpperSender ns_UpperSender [aD K (Cd.d (self.1 : Int)), aD K (Cd.d (self.2.1 : Int)), (pin pv_16 (aDK K (dD ((dDel self.2.2 count) : (List (Int × (List Int)))))))])), some (aD K (Cd.d (count : Int)))]) 0 rfl (imp_pin (imp_obj (.cons imp_rfl (.cons imp_rfl (.cons imp_unpin .nil))))) (xg_nilS (wk_k (wk_k wk_0)))))))) (fun _ => (by exact xg_weak (ρ := [some (pin pa0 (aObj cl_UpperSender ns_UpperSender [aD K (Cd.d (self.1 : Int)), aD K (Cd.d (self.2.1 : Int)), (pin pv_16 (aDK K (dD (self.2.2 : (List (Int × (List Int)))))))])), some (aD K (Cd.d (count : Int)))]) 0 rfl (imp_pin (imp_obj (.cons imp_rfl (.cons imp_rfl (.cons imp_unpin .nil))))) (xg_nilS (wk_k (wk_k wk_0))))) (fun s_18 => (xg_nilS (wk_k (wk_n wk_0)))))))
def m_UpperSender_take_report (self : (Int × Int × (List (Int × (List Int))))) (first : Int) (later : (List Int)) : Option (Int × Int × (List (Int × (List Int)))) :=
  (Option.bind (List.foldlM (fun (s_21 : (Int × Int × (List (Int × (List Int))))) (count_22 : Int) =>
  (Option.bind (if ((decide (count_22 < first)) || (decide (count_22 ∈ later))) = true then
  (Option.bind (m_UpperSender_confirm s_21 count_22) fun v_25 =>
  (some v_25)) else
  (some s_21)) fun s_24 =>
  (some s_24))) self (dKeys self.2.2)) fun s_26 =>
  (some s_26))
abbrev sp_UpperSender_take_report (K : PySem.W.Frag) (cl_UpperSender : Addr) (cl_BearerError : Addr) (cl_NotValid : Addr) : Sp := SpM (fun x : ((Int × Int × (List (Int × (List Int)))) × Int × (List Int)) => [(aObj cl_UpperSender ns_UpperSender [aD K (Cd.d (x.1.1 : Int)), aD K (Cd.d (x.1.2.1 : Int)), (aDK K (dD (x.1.2.2 : (List (Int × (List Int))))))]), aD K (Cd.d (x.2.1 : Int)), aD K (Cd.d (x.2.2 : (List Int)))]) (fun x => m_UpperSender_take_report x.1 x.2.1 x.2.2) (fun x (r : (Int × Int × (List (Int × (List Int))))) => [some (aObj cl_UpperSender ns_UpperSender [aD K (Cd.d (r.1 : Int)), aD K (Cd.d (r.2.1 : Int)), (aDK K (dD (r.2.2 : (List (Int × (List Int))))))]), none, none]) (fun _ r => aD K .none)
abbrev s_UpperSender_take_report : Stmt := inClass (topS 7) 7
theorem sc_UpperSender_take_report : FnScope ["self", "first", "later", "count"] ["self", "first", "later"] (defScope s_UpperSender_take_report) := ⟨rfl, rfl, rfl, by decide +kernel, rfl, by decide +kernel, by decide +kernel⟩
set_option maxHeartbeats 4000000 in
theorem ok_UpperSender_take_report {P : Program} {w : World} {K : PySem.W.Frag} {mg : Str → Option Value} {base : Heap} {f : Addr} {cl_UpperSender : Addr} {cl_BearerError : Addr} {cl_NotValid : Addr} {fd : FuncData} (F : Fun K "take_report" "UpperSender.take_report" s_UpperSender_take_report f fd) (T_UpperSender : CF_UpperSender K cl_UpperSender) (X_BearerError : ExK K mg "BearerError" cl_BearerError) (E_BearerError : ExcC K cl_BearerError) (X_NotValid : ExK K mg "NotValid" cl_NotValid) (E_NotValid : ExcC K cl_NotValid) (xm_NotValid_BearerError : PySem.W.exmOne K (.ref cl_NotValid) (.ref cl_BearerError) = some true) (xk_NotValid_NotValid : PySem.W.kitOne K (.ref cl_NotValid) (.ref cl_NotValid) = some true) (m_list : mg "list" = none) (c_UpperSender_confirm : CalM P w K mg base 1 cl_UpperSender "confirm" (sp_UpperSender_confirm K cl_UpperSender cl_BearerError cl_NotValid)) : FnOk P w K mg base CX0 2 f fd ["self", "first", "later"] (sp_UpperSender_take_report K cl_UpperSender cl_BearerError cl_NotValid) :=
  fn_okN (k := 1) [true, false, false] F sc_UpperSender_take_report rfl (fun _ => rfl) (fun _ _ => rfl) fun x vs cdv A outer s H E hv hr => by
    match x, vs, hv with
    | (self, first, later), [pa0, pa1, pa2], _ =>
      have nd := sc_UpperSender_take_report.nd
      show XG _ _ [some (pin pa0 (aObj cl_UpperSender ns_UpperSender [aD K (Cd.d (self.1 : Int)), aD K (Cd.d (self.2.1 : Int)), (aDK K (dD (self.2.2 : (List (Int × (List Int))))))])), some (aD K (Cd.d (first : Int))), some (aD K (Cd.d (later : (List Int)))), none] (m_UpperSender_take_report self first later) (oS fun r : (Int × Int × (List (Int × (List Int)))) => [some (pin pa0 (aObj cl_UpperSender ns_UpperSender [aD K (Cd.d (r.1 : Int)), aD K (Cd.d (r.2.1 : Int)), (aDK K (dD (r.2.2 : (List (Int × (List Int))))))])), none, none, none])
      unfold m_UpperSender_take_report
      exact (xg_pinf 0 2 rfl rfl fun pv_20 => (xg_st [some (pin pa0 (aObj cl_UpperSender ns_UpperSender [aD K (Cd.d (self.1 : Int)), aD K (Cd.d (self.2.1 : Int)), (pin pv_20 (aDK K (dD (self.2.2 : (List (Int × (List Int)))))))])), some (aD K (Cd.d (first : Int))), some (aD K (Cd.d (later : (List Int)))), none] rfl (xg_for (N := (fun s_21 : (Int × Int × (List (Int × (List Int)))) => [some (pin pa0 (aObj cl_UpperSender ns_UpperSender [aD K (Cd.d (s_21.1 : Int)), aD K (Cd.d (s_21.2.1 : Int)), (aDK K (dD (s_21.2.2 : (List (Int × (List Int))))))])), some (aD K (Cd.d (first : Int))), some (aD K (Cd.d (later : (List Int)))), none])) PassesOwn.never rfl (xi_weak (ρ1 := [some (pin pa0 (aObj cl_UpperSender ns_UpperSender [aD K (Cd.d (self.1 : Int)), aD K (Cd.d (self.2.1 : Int)), (pin pv_20 (aDK K (dD (self.2.2 : (List (Int × (List Int)))))))])), some (aD K (Cd.d (first : Int))), some (aD K (Cd.d (later : (List Int)))), none]) (xi_list (xs := (dKeys self.2.2)) (cv := Cd.d) (xe_frz (xe_dlist (kvs := self.2.2) rfl (xe_fldV 2 (xe_nmV 0 rfl) (Own.slot 0 rfl) T_UpperSender.cl T_UpperSender.n_packets nd_UpperSender rfl rfl) (Own.fld (Own.slot 0 rfl) 2 rfl) m_list))) 0 rfl (imp_pin (imp_obj (.cons imp_rfl (.cons imp_rfl (.cons imp_unpin .nil)))))) (wk_k (wk_k (wk_k (wk_n wk_0)))) (fun _ => trivial) (fun _ _ => (xp_nm 3)) (fun count_22 s_21 => (xg_st [some (pin pa0 (aObj cl_UpperSender ns_UpperSender [aD K (Cd.d (s_21.1 : Int)), aD K (Cd.d (s_21.2.1 : Int)), (aDK K (dD (s_21.2.2 : (List (Int × (List Int))))))])), some (aD K (Cd.d (first : Int))), some (aD K (Cd.d (later : (List Int)))), some (aD K (Cd.d (count_22 : Int)))] rfl (xg_if (N := (fun s_24 : (Int × Int × (List (Int × (List Int)))) => [some (pin pa0 (aObj cl_UpperSender ns_UpperSender [aD K (Cd.d (s_24.1 : Int)), aD K (Cd.d (s_24.2.1 : Int)), (aDK K (dD (s_24.2.2 : (List (Int × (List Int))))))])), some (aD K (Cd.d (first : Int))), some (aD K (Cd.d (later : (List Int)))), some (aD K (Cd.d (count_22 : Int)))])) (xt_w (xw_or (xt_k (xk_lt (xe_nm 3 rfl) (xe_nm 1 rfl))) fun _ => (xw_or1 (xt_k (xk_in (xs := later) (xe_nm 3 rfl) (xe_nm 2 rfl) rlD))))) (fun _ => (xg_st [some (pin pa0 (aObj cl_UpperSender ns_UpperSender [aD K (Cd.d (s_21.1 : Int)), aD K (Cd.d (s_21.2.1 : Int)), (aDK K (dD (s_21.2.2 : (List (Int × (List Int))))))])), some (aD K (Cd.d (first : Int))), some (aD K (Cd.d (later : (List Int)))), some (aD K (Cd.d (count_22 : Int)))] rfl (xg_bind fun v_25 hv_25 =>
  (xg_expr (xe_meth (xx := (s_21, count_22)) c_UpperSender_confirm T_UpperSender.cl nm_UpperSender_confirm (hr.mono (by decide)) hv_25 (xe_nmV 0 rfl) (Own.slot 0 rfl) (xl_of (xa_cons (xe_nm 3 rfl) xa_nil)) (Own.slot 0 rfl) rfl rfl rfl (by simp) (by simp) (List.forall_mem_nil _) rfl rfl) (xg_nilS (wk_k (wk_k (wk_k (wk_k wk_0))))))))) (fun _ => (xg_nilS (wk_k (wk_k (wk_k (wk_k wk_0)))))) (fun s_24 => (xg_nilS (wk_k (wk_k (wk_k (wk_n wk_0))))))))) (fun s_26 => (xg_nilS (wk_k (wk_n (wk_n (wk_n wk_0)))))))))
def m_l_cell (l_script : (List Int)) (l_k : Int) : Option Int :=
  (if (decide (l_k < ((List.length l_script : Nat) : Int))) = true then
  (Option.bind (atI l_script l_k) fun x_27 =>
  (some x_27)) else
  (some 0))
abbrev sp_l_cell (K : PySem.W.Frag) (cl_UpperSender : Addr) (cl_BearerError : Addr) (cl_NotValid : Addr) : Sp := SpM (fun x : ((List Int) × Int) => [aR K (List.map Cd.d (x.1 : List Int)), aD K (Cd.d (x.2 : Int))]) (fun x => m_l_cell x.1 x.2) (fun x (r : Int) => [none, none]) (fun _ r => aD K (Cd.d (r : Int)))
abbrev s_l_cell : Stmt := topS 9
theorem sc_l_cell : FnScope ["_law_script", "_law_k"] ["_law_script", "_law_k"] (defScope s_l_cell) := ⟨rfl, rfl, rfl, by decide +kernel, rfl, by decide +kernel, by decide +kernel⟩
set_option maxHeartbeats 4000000 in
theorem ok_l_cell {P : Program} {w : World} {K : PySem.W.Frag} {mg : Str → Option Value} {base : Heap} {f : Addr} {cl_UpperSender : Addr} {cl_BearerError : Addr} {cl_NotValid : Addr} {fd : FuncData} (F : Fun K "_law_cell" "_law_cell" s_l_cell f fd) (T_UpperSender : CF_UpperSender K cl_UpperSender) (X_BearerError : ExK K mg "BearerError" cl_BearerError) (E_BearerError : ExcC K cl_BearerError) (X_NotValid : ExK K mg "NotValid" cl_NotValid) (E_NotValid : ExcC K cl_NotValid) (xm_NotValid_BearerError : PySem.W.exmOne K (.ref cl_NotValid) (.ref cl_BearerError) = some true) (xk_NotValid_NotValid : PySem.W.kitOne K (.ref cl_NotValid) (.ref cl_NotValid) = some true) (m_int : mg "int" = none) (m_len : mg "len" = none) : FnOk P w K mg base CX0 1 f fd ["_law_script", "_law_k"] (sp_l_cell K cl_UpperSender cl_BearerError cl_NotValid) :=
  fn_ok (k := 0) [false, false] F sc_l_cell rfl (fun _ => rfl) (fun _ _ => rfl) fun x vs cdv A outer s H E hv hr => by
    match x, vs, hv with
    | (l_script, l_k), [pa0, pa1], _ =>
      have nd := sc_l_cell.nd
      show XG _ _ [some (aR K (List.map Cd.d (l_script : List Int))), some (aD K (Cd.d (l_k : Int)))] (m_l_cell l_script l_k) (oR fun r : Int => [some (aD K (Cd.d (r : Int))), none, none])
      unfold m_l_cell
      exact (xg_st [some (aR K (List.map Cd.d (l_script : List Int))), some (aD K (Cd.d (l_k : Int)))] rfl (xg_ifR (u := []) (xt_k (xk_lt (xe_nm 1 rfl) (xc_len (xs := l_script) (xe_nmR 0 rfl) rlR m_len))) (fun _ => (xg_bind fun x_27 hx_27 =>
  (xg_ret (A := aD K (Cd.d (x_27 : Int))) (xe_int1 (xc_ix (xs := l_script) (xe_nmR 0 rfl) (xe_nm 1 rfl) rlR hx_27) m_int) (wk_k (wk_n (wk_n wk_0)))))) (fun _ => (xg_ret (A := aD K (Cd.d (0 : Int))) xe_int (wk_k (wk_n (wk_n wk_0)))))))
def m_l_digits (l_cell_here : Int) (l_bases : (List Int)) : Option (List Int) :=
  (Option.bind (List.foldlM (fun (s_29 : ((List Int) × Int)) (l_base_30 : Int) =>
  (Option.bind (if (decide (1000000000000000000 ≤ l_cell_here)) = true then
  (Option.bind (modM s_29.2 l_base_30) fun r_40 =>
  (Option.bind (guardO (List.length s_29.1 < 1000000)) fun g_41 =>
  (Option.bind (divM s_29.2 l_base_30) fun q_42 =>
  (some ((s_29.1 ++ [r_40]), q_42))))) else
  (lett (((((s_29.2 * 48271) + (1009 * ((List.length s_29.1 : Nat) : Int))) + 12345) % 2147483647) : Int) fun l_rest_43 =>
  (Option.bind (mulM l_rest_43 l_rest_43) fun p_44 =>
  (lett ((p_44 % 2147483629) : Int) fun l_mixed_45 =>
  (Option.bind (modM (l_mixed_45 / 13) l_base_30) fun r_46 =>
  (Option.bind (guardO (List.length s_29.1 < 1000000)) fun g_47 =>
  (some ((s_29.1 ++ [r_46]), l_rest_43)))))))) fun s_39 =>
  (some (s_39.1, s_39.2)))) (([] : List Int), l_cell_here) l_bases) fun s_48 =>
  (some s_48.1))
abbrev sp_l_digits (K : PySem.W.Frag) (cl_UpperSender : Addr) (cl_BearerError : Addr) (cl_NotValid : Addr) : Sp := SpM (fun x : (Int × (List Int)) => [aD K (Cd.d (x.1 : Int)), aD K (Cd.d (x.2 : (List Int)))]) (fun x => m_l_digits x.1 x.2) (fun x (r : (List Int)) => [none, none]) (fun _ r => aD K (Cd.d (r : (List Int))))
abbrev s_l_digits : Stmt := topS 10
theorem sc_l_digits : FnScope ["_law_cell_here", "_law_bases", "_law_digits_here", "_law_rest", "_law_base", "_law_mixed"] ["_law_cell_here", "_law_bases"] (defScope s_l_digits) := ⟨rfl, rfl, rfl, by decide +kernel, rfl, by decide +kernel, by decide +kernel⟩
set_option maxHeartbeats 4000000 in
theorem ok_l_digits {P : Program} {w : World} {K : PySem.W.Frag} {mg : Str → Option Value} {base : Heap} {f : Addr} {cl_UpperSender : Addr} {cl_BearerError : Addr} {cl_NotValid : Addr} {fd : FuncData} (F : Fun K "_law_digits" "_law_digits" s_l_digits f fd) (T_UpperSender : CF_UpperSender K cl_UpperSender) (X_BearerError : ExK K mg "BearerError" cl_BearerError) (E_BearerError : ExcC K cl_BearerError) (X_NotValid : ExK K mg "NotValid" cl_NotValid) (E_NotValid : ExcC K cl_NotValid) (xm_NotValid_BearerError : PySem.W.exmOne K (.ref cl_NotValid) (.ref cl_BearerError) = some true) (xk_NotValid_NotValid : PySem.W.kitOne K (.ref cl_NotValid) (.ref cl_NotValid) = some true) (m_int : mg "int" = none) (m_len : mg "len" = none) : FnOk P w K mg base CX0 1 f fd ["_law_cell_here", "_law_bases"] (sp_l_digits K cl_UpperSender cl_BearerError cl_NotValid) :=
  fn_ok (k := 0) [false, false] F sc_l_digits rfl (fun _ => rfl) (fun _ _ => rfl) fun x vs cdv A outer s H E hv hr => by
    match x, vs, hv with
    | (l_cell_here, l_bases), [pa0, pa1], _ =>
      have nd := sc_l_digits.nd
      show XG _ _ [some (aD K (Cd.d (l_cell_here : Int))), some (aD K (Cd.d (l_bases : (List Int)))), none, none, none, none] (m_l_digits l_cell_here l_bases) (oR fun r : (List Int) => [some (aD K (Cd.d (r : (List Int)))), none, none, none, none, none, none])
      unfold m_l_digits
      exact (xg_st [some (aD K (Cd.d (l_cell_here : Int))), some (aD K (Cd.d (l_bases : (List Int)))), none, none, none, none] rfl (xg_asgP 2 (xe_is (B := aLD K (List.map Cd.d ([] : List Int))) (xe_lst xa_nil (Nat.le_of_ble_eq_true rfl)) rfl) fun pv_28 => (xg_st [some (aD K (Cd.d (l_cell_here : Int))), some (aD K (Cd.d (l_bases : (List Int)))), some (pin pv_28 (aLD K (List.map Cd.d (([] : List Int) : List Int)))), none, none, none] rfl (xg_asg 3 (A := aD K (Cd.d (l_cell_here : Int))) (xe_int1 (xe_nm 0 rfl) m_int) (xg_st [some (aD K (Cd.d (l_cell_here : Int))), some (aD K (Cd.d (l_bases : (List Int)))), some (pin pv_28 (aLD K (List.map Cd.d (([] : List Int) : List Int)))), some (aD K (Cd.d (l_cell_here : Int))), none, none] rfl (xg_for (N := (fun s_29 : ((List Int) × Int) => [some (aD K (Cd.d (l_cell_here : Int))), some (aD K (Cd.d (l_bases : (List Int)))), some (pin pv_28 (aLD K (List.map Cd.d (s_29.1 : List Int)))), some (aD K (Cd.d (s_29.2 : Int))), none, none])) PassesOwn.never rfl (xi_list (xs := l_bases) (cv := Cd.d) (xe_nm 1 rfl)) (wk_k (wk_k (wk_k (wk_k (wk_n (wk_n wk_0)))))) (fun _ => trivial) (fun _ _ => (xp_nm 4)) (fun l_base_30 s_29 => (xg_st [some (aD K (Cd.d (l_cell_here : Int))), some (aD K (Cd.d (l_bases : (List Int)))), some (pin pv_28 (aLD K (List.map Cd.d (s_29.1 : List Int)))), some (aD K (Cd.d (s_29.2 : Int))), some (aD K (Cd.d (l_base_30 : Int))), none] rfl (xg_if (N := (fun s_39 : ((List Int) × Int) => [some (aD K (Cd.d (l_cell_here : Int))), some (aD K (Cd.d (l_bases : (List Int)))), some (pin pv_28 (aLD K (List.map Cd.d (s_39.1 : List Int)))), some (aD K (Cd.d (s_39.2 : Int))), some (aD K (Cd.d (l_base_30 : Int))), none])) (xt_k (xk_ge (xe_nm 0 rfl) (xe_isI (xe_pow (by decide) xe_int xe_int) (by decide)))) (fun _ => (xg_st [some (aD K (Cd.d (l_cell_here : Int))), some (aD K (Cd.d (l_bases : (List Int)))), some (pin pv_28 (aLD K (List.map Cd.d (s_29.1 : List Int)))), some (aD K (Cd.d (s_29.2 : Int))), some (aD K (Cd.d (l_base_30 : Int))), none] rfl (xg_bind fun r_40 hr_40 =>
  (xg_bind fun g_41 hg_41 =>
  (xg_expr (xe_appendDW (cv := Cd.d) (xs := s_29.1) (x := r_40) (xe_nmV 2 rfl) (Own.slot 2 rfl) (xe_isI (xe_mod (modM_eq hr_40).1 (xe_int1 (xe_nm 3 rfl) m_int) (xe_nm 4 rfl)) (modM_eq hr_40).2) (Own.slot 2 rfl) (sz_lt (guardO_eq hg_41))) (xg_st [some (aD K (Cd.d (l_cell_here : Int))), some (aD K (Cd.d (l_bases : (List Int)))), some (pin pv_28 (aLD K (List.map Cd.d ((s_29.1 ++ [r_40]) : List Int)))), some (aD K (Cd.d (s_29.2 : Int))), some (aD K (Cd.d (l_base_30 : Int))), none] rfl (xg_bind fun q_42 hq_42 =>
  (xg_asg 3 (A := aD K (Cd.d (q_42 : Int))) (xe_isI (xe_div (divM_eq hq_42).1 (xe_nm 3 rfl) (xe_nm 4 rfl)) (divM_eq hq_42).2) (xg_nilS (wk_k (wk_k (wk_k (wk_k (wk_k (wk_n wk_0))))))))))))))) (fun _ => (xg_st [some (aD K (Cd.d (l_cell_here : Int))), some (aD K (Cd.d (l_bases : (List Int)))), some (pin pv_28 (aLD K (List.map Cd.d (s_29.1 : List Int)))), some (aD K (Cd.d (s_29.2 : Int))), some (aD K (Cd.d (l_base_30 : Int))), none] rfl (xg_lett fun l_rest_43 hl_rest_43 =>
  (xg_asg 3 (A := aD K (Cd.d (l_rest_43 : Int))) (xe_nv (v := (((((s_29.2 * 48271) + (1009 * ((List.length s_29.1 : Nat) : Int))) + 12345) % 2147483647) : Int)) (xe_mod (by decide) (xe_add (xe_add (xe_mul (mulR 48271) (xe_int1 (xe_nm 3 rfl) m_int) xe_int) (xe_mul (mulL 1009) xe_int (xc_len (xs := s_29.1) (xe_nmV 2 rfl) (Rlm.ls (rmW (Own.slot 2 rfl))) m_len))) xe_int) xe_int) hl_rest_43) (xg_st [some (aD K (Cd.d (l_cell_here : Int))), some (aD K (Cd.d (l_bases : (List Int)))), some (pin pv_28 (aLD K (List.map Cd.d (s_29.1 : List Int)))), some (aD K (Cd.d (l_rest_43 : Int))), some (aD K (Cd.d (l_base_30 : Int))), none] rfl (xg_bind fun p_44 hp_44 =>
  (xg_lett fun l_mixed_45 hl_mixed_45 =>
  (xg_asg 5 (A := aD K (Cd.d (l_mixed_45 : Int))) (xe_nv (v := ((p_44 % 2147483629) : Int)) (xe_mod (by decide) (xe_isI (xe_mul (mulM_eq hp_44).1 (xe_int1 (xe_nm 3 rfl) m_int) (xe_int1 (xe_nm 3 rfl) m_int)) (mulM_eq hp_44).2) xe_int) hl_mixed_45) (xg_st [some (aD K (Cd.d (l_cell_here : Int))), some (aD K (Cd.d (l_bases : (List Int)))), some (pin pv_28 (aLD K (List.map Cd.d (s_29.1 : List Int)))), some (aD K (Cd.d (l_rest_43 : Int))), some (aD K (Cd.d (l_base_30 : Int))), some (aD K (Cd.d (l_mixed_45 : Int)))] rfl (xg_bind fun r_46 hr_46 =>
  (xg_bind fun g_47 hg_47 =>
  (xg_expr (xe_appendDW (cv := Cd.d) (xs := s_29.1) (x := r_46) (xe_nmV 2 rfl) (Own.slot 2 rfl) (xe_isI (xe_mod (modM_eq hr_46).1 (xe_div (by decide) (xe_int1 (xe_nm 5 rfl) m_int) xe_int) (xe_nm 4 rfl)) (modM_eq hr_46).2) (Own.slot 2 rfl) (sz_lt (guardO_eq hg_47))) (xg_nilS (wk_k (wk_k (wk_k (wk_k (wk_k (wk_n wk_0))))))))))))))))))) (fun s_39 => (xg_nilS (wk_k (wk_k (wk_k (wk_k (wk_n (wk_n wk_0))))))))))) (fun s_48 => (xg_freeze 2 rfl (xg_ret (A := aD K (Cd.d (s_48.1 : (List Int)))) (xe_nm 2 rfl) (wk_k (wk_n (wk_n (wk_n (wk_n (wk_n (wk_n wk_0))))))))))))))))
def m_l_many (l_script : (List Int)) (l_few : Int) (l_many_here : Int) : Option Int :=
  (Option.bind ((if (decide (0 < ((List.length l_script : Nat) : Int))) = true then (Option.bind (atI l_script 0) fun x_50 => (some (decide ((((x_50 / 1009) % 5) : Int) = 1)))) else some false)) fun c_51 =>
  (if c_51 = true then
  (some l_many_here) else
  (some l_few)))
abbrev sp_l_many (K : PySem.W.Frag) (cl_UpperSender : Addr) (cl_BearerError : Addr) (cl_NotValid : Addr) : Sp := SpM (fun x : ((List Int) × Int × Int) => [aR K (List.map Cd.d (x.1 : List Int)), aD K (Cd.d (x.2.1 : Int)), aD K (Cd.d (x.2.2 : Int))]) (fun x => m_l_many x.1 x.2.1 x.2.2) (fun x (r : Int) => [none, none, none]) (fun _ r => aD K (Cd.d (r : Int)))
abbrev s_l_many : Stmt := topS 11
theorem sc_l_many : FnScope ["_law_script", "_law_few", "_law_many_here"] ["_law_script", "_law_few", "_law_many_here"] (defScope s_l_many) := ⟨rfl, rfl, rfl, by decide +kernel, rfl, by decide +kernel, by decide +kernel⟩
set_option maxHeartbeats 4000000 in
theorem ok_l_many {P : Program} {w : World} {K : PySem.W.Frag} {mg : Str → Option Value} {base : Heap} {f : Addr} {cl_UpperSender : Addr} {cl_BearerError : Addr} {cl_NotValid : Addr} {fd : FuncData} (F : Fun K "_law_many" "_law_many" s_l_many f fd) (T_UpperSender : CF_UpperSender K cl_UpperSender) (X_BearerError : ExK K mg "BearerError" cl_BearerError) (E_BearerError : ExcC K cl_BearerError) (X_NotValid : ExK K mg "NotValid" cl_NotValid) (E_NotValid : ExcC K cl_NotValid) (xm_NotValid_BearerError : PySem.W.exmOne K (.ref cl_NotValid) (.ref cl_BearerError) = some true) (xk_NotValid_NotValid : PySem.W.kitOne K (.ref cl_NotValid) (.ref cl_NotValid) = some true) (m_int : mg "int" = none) (m_len : mg "len" = none) : FnOk P w K mg base CX0 1 f fd ["_law_script", "_law_few", "_law_many_here"] (sp_l_many K cl_UpperSender cl_BearerError cl_NotValid) :=
  fn_ok (k := 0) [false, false, false] F sc_l_many rfl (fun _ => rfl) (fun _ _ => rfl) fun x vs cdv A outer s H E hv hr => by
    match x, vs, hv with
    | (l_script, l_few, l_many_here), [pa0, pa1, pa2], _ =>
      have nd := sc_l_many.nd
      show XG _ _ [some (aR K (List.map Cd.d (l_script : List Int))), some (aD K (Cd.d (l_few : Int))), some (aD K (Cd.d (l_many_here : Int)))] (m_l_many l_script l_few l_many_here) (oR fun r : Int => [some (aD K (Cd.d (r : Int))), none, none, none])
      unfold m_l_many
      exact (xg_st [some (aR K (List.map Cd.d (l_script : List Int))), some (aD K (Cd.d (l_few : Int))), some (aD K (Cd.d (l_many_here : Int)))] rfl (xg_bind fun c_51 hc_51 =>
  (xg_ifR (u := []) (xt_w (xw_andM (xt_k (xk_gt (xc_len (xs := l_script) (xe_nmR 0 rfl) rlR m_len) xe_int)) (xwm_and1 (xtm_bind fun x_50 hx_50 => (xtm_some (xt_k (xkc_eq (x := (((x_50 / 1009) % 5) : Int)) (y := (1 : Int)) hr.units (xe_mod (by decide) (xe_div (by decide) (xe_int1 (xc_ix (xs := l_script) (xe_nmR 0 rfl) xe_int rlR hx_50) m_int) xe_int) xe_int) xe_int rdD rdD))))) hc_51)) (fun _ => (xg_ret (A := aD K (Cd.d (l_many_here : Int))) (xe_nm 2 rfl) (wk_k (wk_n (wk_n (wk_n wk_0)))))) (fun _ => (xg_ret (A := aD K (Cd.d (l_few : Int))) (xe_nm 1 rfl) (wk_k (wk_n (wk_n (wk_n wk_0)))))))))
def m_l_bytes (l_cell_here : Int) (l_size : Int) : Option (List Int) :=
  (Option.bind (m_l_digits l_cell_here ([3, 256, 256, 7])) fun v_52 =>
  (Option.bind (atI v_52 0) fun x_53 =>
  (if (decide ((x_53 : Int) = 0)) = true then
  (Option.bind (guardO (-(2 ^ 62) ≤ l_size ∧ l_size < 2 ^ 62)) fun g_54 =>
  (Option.bind (mapO (fun l_k_55 : Int => (Option.bind (atI v_52 1) fun x_56 => (some x_56))) (rangeI 0 (Int.toNat l_size))) fun ys_57 =>
  (some ys_57))) else
  (Option.bind (guardO (-(2 ^ 62) ≤ l_size ∧ l_size < 2 ^ 62)) fun g_58 =>
  (Option.bind (mapO (fun l_k_59 : Int => (Option.bind (atI v_52 1) fun x_60 => (Option.bind (atI v_52 3) fun x_61 => (Option.bind (mulM ((2 * x_61) + 1) l_k_59) fun p_62 => (Option.bind (mulM p_62 l_k_59) fun p_63 => (Option.bind (atI v_52 2) fun x_64 => (Option.bind (mulM x_64 l_k_59) fun p_65 => (some (((x_60 + p_63) + p_65) % 256))))))))) (rangeI 0 (Int.toNat l_size))) fun ys_66 =>
  (some ys_66))))))
abbrev sp_l_bytes (K : PySem.W.Frag) (cl_UpperSender : Addr) (cl_BearerError : Addr) (cl_NotValid : Addr) : Sp := SpM (fun x : (Int × Int) => [aD K (Cd.d (x.1 : Int)), aD K (Cd.d (x.2 : Int))]) (fun x => m_l_bytes x.1 x.2) (fun x (r : (List Int)) => [none, none]) (fun _ r => aD K (Cd.d (r : (List Int))))
abbrev s_l_bytes : Stmt := topS 12
theorem sc_l_bytes : FnScope ["_law_cell_here", "_law_size", "_law_digits_here", "_law_k"] ["_law_cell_here", "_law_size"] (defScope s_l_bytes) := ⟨rfl, rfl, rfl, by decide +kernel, rfl, by decide +kernel, by decide +kernel⟩
set_option maxHeartbeats 4000000 in
theorem ok_l_bytes {P : Program} {w : World} {K : PySem.W.Frag} {mg : Str → Option Value} {base : Heap} {f : Addr} {cl_UpperSender : Addr} {cl_BearerError : Addr} {cl_NotValid : Addr} {fd : FuncData} (F : Fun K "_law_bytes" "_law_bytes" s_l_bytes f fd) (T_UpperSender : CF_UpperSender K cl_UpperSender) (X_BearerError : ExK K mg "BearerError" cl_BearerError) (E_BearerError : ExcC K cl_BearerError) (X_NotValid : ExK K mg "NotValid" cl_NotValid) (E_NotValid : ExcC K cl_NotValid) (xm_NotValid_BearerError : PySem.W.exmOne K (.ref cl_NotValid) (.ref cl_BearerError) = some true) (xk_NotValid_NotValid : PySem.W.kitOne K (.ref cl_NotValid) (.ref cl_NotValid) = some true) (m_range : mg "range" = none) (c_l_digits : Cal P w K mg base 1 "_law_digits" (sp_l_digits K cl_UpperSender cl_BearerError cl_NotValid)) : FnOk P w K mg base CX0 2 f fd ["_law_cell_here", "_law_size"] (sp_l_bytes K cl_UpperSender cl_BearerError cl_NotValid) :=
  fn_ok (k := 1) [false, false] F sc_l_bytes rfl (fun _ => rfl) (fun _ _ => rfl) fun x vs cdv A outer s H E hv hr => by
    match x, vs, hv with
    | (l_cell_here, l_size), [pa0, pa1], _ =>
      have nd := sc_l_bytes.nd
      show XG _ _ [some (aD K (Cd.d (l_cell_here : Int))), some (aD K (Cd.d (l_size : Int))), none, none] (m_l_bytes l_cell_here l_size) (oR fun r : (List Int) => [some (aD K (Cd.d (r : (List Int)))), none, none, none, none])
      unfold m_l_bytes
      exact (xg_st [some (aD K (Cd.d (l_cell_here : Int))), some (aD K (Cd.d (l_size : Int))), none, none] rfl (xg_bind fun v_52 hv_52 =>
  (xg_asg 2 (A := aD K (Cd.d (v_52 : (List Int)))) (xe_call (xx := (l_cell_here, [3, 256, 256, 7])) c_l_digits (hr.mono (by decide)) hv_52 (xl_of (xa_cons (xe_nm 0 rfl) (xa_cons (xe_frz (xe_lstD (xs := ([3, 256, 256, 7] : List Int)) (xa_cons xe_int (xa_cons xe_int (xa_cons xe_int (xa_cons xe_int xa_nil)))) (Nat.le_of_ble_eq_true rfl))) xa_nil))) rfl (by simp) (by simp) (List.forall_mem_nil _) rfl rfl) (xg_st [some (aD K (Cd.d (l_cell_here : Int))), some (aD K (Cd.d (l_size : Int))), some (aD K (Cd.d (v_52 : (List Int)))), none] rfl (xg_bind fun x_53 hx_53 =>
  (xg_ifR (u := []) (xt_k (xkc_eq (x := (x_53 : Int)) (y := (0 : Int)) hr.units (xc_ix (xs := v_52) (xe_nm 2 rfl) xe_int rlD hx_53) xe_int rdD rdD)) (fun _ => (xg_bind fun g_54 hg_54 =>
  (xg_bind fun ys_57 hys_57 =>
  (xg_ret (A := aD K (Cd.d (ys_57 : (List Int)))) (xe_frz (xe_lc (xc_imp (xc_mapO 3 hys_57 (xi_range1 (by exact rfl) m_range (xe_nm 1 rfl) (guardO_eq hg_54)) trivial (Nat.le_of_ble_eq_true rfl) (el := fun y => aD K (Cd.d (y : Int))) (fun _ _ _ _ _ l_k_55 => (xem_bind fun x_56 hx_56 => (xem_some (xc_ix (xs := v_52) (xe_nm 2 rfl) xe_int rlD hx_56))))) (aLD_map Cd.d _)) rfl nd (blkOk_by (N := ["_law_cell_here", "_law_size", "_law_digits_here", "_law_k"]) (sc := defScope s_l_bytes) (by decide +kernel)) (fun _ _ _ _ _ => pg_name nd rfl (.inl rfl)))) (wk_k (wk_n (wk_n (wk_n (wk_n wk_0))))))))) (fun _ => (xg_bind fun g_58 hg_58 =>
  (xg_bind fun ys_66 hys_66 =>
  (xg_ret (A := aD K (Cd.d (ys_66 : (List Int)))) (xe_frz (xe_lc (xc_imp (xc_mapO 3 hys_66 (xi_range1 (by exact rfl) m_range (xe_nm 1 rfl) (guardO_eq hg_58)) trivial (Nat.le_of_ble_eq_true rfl) (el := fun y => aD K (Cd.d (y : Int))) (fun _ _ _ _ _ l_k_59 => (xem_bind fun x_60 hx_60 => (xem_bind fun x_61 hx_61 => (xem_bind fun p_62 hp_62 => (xem_bind fun p_63 hp_63 => (xem_bind fun x_64 hx_64 => (xem_bind fun p_65 hp_65 => (xem_some (xe_mod (by decide) (xe_add (xe_add (xc_ix (xs := v_52) (xe_nm 2 rfl) xe_int rlD hx_60) (xe_isI (xe_mul (mulM_eq hp_63).1 (xe_isI (xe_mul (mulM_eq hp_62).1 (xe_add (xe_mul (mulL 2) xe_int (xc_ix (xs := v_52) (xe_nm 2 rfl) xe_int rlD hx_61)) xe_int) (xe_nm 3 rfl)) (mulM_eq hp_62).2) (xe_nm 3 rfl)) (mulM_eq hp_63).2)) (xe_isI (xe_mul (mulM_eq hp_65).1 (xc_ix (xs := v_52) (xe_nm 2 rfl) xe_int rlD hx_64) (xe_nm 3 rfl)) (mulM_eq hp_65).2)) xe_int)))))))))) (aLD_map Cd.d _)) rfl nd (blkOk_by (N := ["_law_cell_here", "_law_size", "_law_digits_here", "_law_k"]) (sc := defScope s_l_bytes) (by decide +kernel)) (fun _ _ _ _ _ => pg_name nd rfl (.inl rfl)))) (wk_k (wk_n (wk_n (wk_n (wk_n wk_0)))))))))))))))
def m_l_window (l_bits : Int) : Option Int :=
  (Option.bind (atI ([8, 16, 32, 64]) (l_bits - 4)) fun x_67 =>
  (some x_67))
abbrev sp_l_window (K : PySem.W.Frag) (cl_UpperSender : Addr) (cl_BearerError : Addr) (cl_NotValid : Addr) : Sp := SpM (fun x : Int => [aD K (Cd.d (x : Int))]) (fun x => m_l_window x) (fun x (r : Int) => [none]) (fun _ r => aD K (Cd.d (r : Int)))
abbrev s_l_window : Stmt := topS 15
theorem sc_l_window : FnScope ["_law_bits"] ["_law_bits"] (defScope s_l_window) := ⟨rfl, rfl, rfl, by decide +kernel, rfl, by decide +kernel, by decide +kernel⟩
set_option maxHeartbeats 4000000 in
theorem ok_l_window {P : Program} {w : World} {K : PySem.W.Frag} {mg : Str → Option Value} {base : Heap} {f : Addr} {cl_UpperSender : Addr} {cl_BearerError : Addr} {cl_NotValid : Addr} {fd : FuncData} (F : Fun K "_law_window" "_law_window" s_l_window f fd) (T_UpperSender : CF_UpperSender K cl_UpperSender) (X_BearerError : ExK K mg "BearerError" cl_BearerError) (E_BearerError : ExcC K cl_BearerError) (X_NotValid : ExK K mg "NotValid" cl_NotValid) (E_NotValid : ExcC K cl_NotValid) (xm_NotValid_BearerError : PySem.W.exmOne K (.ref cl_NotValid) (.ref cl_BearerError) = some true) (xk_NotValid_NotValid : PySem.W.kitOne K (.ref cl_NotValid) (.ref cl_NotValid) = some true)  : FnOk P w K mg base CX0 1 f fd ["_law_bits"] (sp_l_window K cl_UpperSender cl_BearerError cl_NotValid) :=
  fn_ok (k := 0) [false] F sc_l_window rfl (fun _ => rfl) (fun _ _ => rfl) fun x vs cdv A outer s H E hv hr => by
    match x, vs, hv with
    | l_bits, [pa0], _ =>
      have nd := sc_l_window.nd
      show XG _ _ [some (aD K (Cd.d (l_bits : Int)))] (m_l_window l_bits) (oR fun r : Int => [some (aD K (Cd.d (r : Int))), none])
      unfold m_l_window
      exact (xg_bind fun x_67 hx_67 =>
  (xg_ret (A := aD K (Cd.d (x_67 : Int))) (xc_ix (xs := [8, 16, 32, 64]) (xe_lstD (xs := ([8, 16, 32, 64] : List Int)) (xa_cons xe_int (xa_cons xe_int (xa_cons xe_int (xa_cons xe_int xa_nil)))) (Nat.le_of_ble_eq_true rfl)) (xe_sub (xe_nm 0 rfl) xe_int) (Rlm.ls rmL) hx_67) (wk_k (wk_n wk_0))))
def m_l_refused (l_sender : (Int × Int × (List (Int × (List Int))))) : Option (Bool × (Int × Int × (List (Int × (List Int))))) :=
  (tryM (orZ (mz_UpperSender_add l_sender ([1])) (fun z_68 : ((Int × Int × (List (Int × (List Int)))) × (List Int)) => z_68.1) (Option.bind (m_UpperSender_add l_sender ([1])) fun v_69 =>
  none))
  (Option.bind (m_UpperSender_add l_sender ([1])) fun v_73 =>
  (some v_73.2.1))
  (fun z_70 : (Int × Int × (List (Int × (List Int)))) =>
  (some (true, z_70)))
  (fun s_72 : (Int × Int × (List (Int × (List Int)))) =>
  (some (false, s_72))))
abbrev sp_l_refused (K : PySem.W.Frag) (cl_UpperSender : Addr) (cl_BearerError : Addr) (cl_NotValid : Addr) : Sp := SpM (fun x : (Int × Int × (List (Int × (List Int)))) => [(aObj cl_UpperSender ns_UpperSender [aD K (Cd.d (x.1 : Int)), aD K (Cd.d (x.2.1 : Int)), (aDK K (dD (x.2.2 : (List (Int × (List Int))))))])]) (fun x => m_l_refused x) (fun x (r : (Bool × (Int × Int × (List (Int × (List Int)))))) => [some (aObj cl_UpperSender ns_UpperSender [aD K (Cd.d (r.2.1 : Int)), aD K (Cd.d (r.2.2.1 : Int)), (aDK K (dD (r.2.2.2 : (List (Int × (List Int))))))])]) (fun _ r => aD K (Cd.d (r.1 : Bool)))
abbrev s_l_refused : Stmt := topS 16
theorem sc_l_refused : FnScope ["_law_sender", "error"] ["_law_sender"] (defScope s_l_refused) := ⟨rfl, rfl, rfl, by decide +kernel, rfl, by decide +kernel, by decide +kernel⟩
set_option maxHeartbeats 4000000 in
theorem ok_l_refused {P : Program} {w : World} {K : PySem.W.Frag} {mg : Str → Option Value} {base : Heap} {f : Addr} {cl_UpperSender : Addr} {cl_BearerError : Addr} {cl_NotValid : Addr} {fd : FuncData} (F : Fun K "_law_refused" "_law_refused" s_l_refused f fd) (T_UpperSender : CF_UpperSender K cl_UpperSender) (X_BearerError : ExK K mg "BearerError" cl_BearerError) (E_BearerError : ExcC K cl_BearerError) (X_NotValid : ExK K mg "NotValid" cl_NotValid) (E_NotValid : ExcC K cl_NotValid) (xm_NotValid_BearerError : PySem.W.exmOne K (.ref cl_NotValid) (.ref cl_BearerError) = some true) (xk_NotValid_NotValid : PySem.W.kitOne K (.ref cl_NotValid) (.ref cl_NotValid) = some true) (m_isinstance : mg "isinstance" = none) (c_UpperSender_add : CalM P w K mg base 3 cl_UpperSender "add" (sp_UpperSender_add K cl_UpperSender cl_BearerError cl_NotValid)) (cz_UpperSender_add : CalMZ P w K mg base 3 cl_UpperSender "add" (spz_UpperSender_add K cl_UpperSender cl_BearerError cl_NotValid)) : FnOk P w K mg base CX0 4 f fd ["_law_sender"] (sp_l_refused K cl_UpperSender cl_BearerError cl_NotValid) :=
  fn_ok (k := 3) [true] F sc_l_refused rfl (fun _ => rfl) (fun _ _ => rfl) fun x vs cdv A outer s H E hv hr => by
    match x, vs, hv with
    | l_sender, [pa0], _ =>
      have nd := sc_l_refused.nd
      show XG _ _ [some (pin pa0 (aObj cl_UpperSender ns_UpperSender [aD K (Cd.d (l_sender.1 : Int)), aD K (Cd.d (l_sender.2.1 : Int)), (aDK K (dD (l_sender.2.2 : (List (Int × (List Int))))))])), none] (m_l_refused l_sender) (oR fun r : (Bool × (Int × Int × (List (Int × (List Int))))) => [some (aD K (Cd.d (r.1 : Bool))), some (pin pa0 (aObj cl_UpperSender ns_UpperSender [aD K (Cd.d (r.2.1 : Int)), aD K (Cd.d (r.2.2.1 : Int)), (aDK K (dD (r.2.2.2 : (List (Int × (List Int))))))])), none])
      unfold m_l_refused
      exact (xg_st [some (pin pa0 (aObj cl_UpperSender ns_UpperSender [aD K (Cd.d (l_sender.1 : Int)), aD K (Cd.d (l_sender.2.1 : Int)), (aDK K (dD (l_sender.2.2 : (List (Int × (List Int))))))])), none] rfl (xg_tryAs 1 (ρz := fun z_70 : (Int × Int × (List (Int × (List Int)))) => [some (pin pa0 (aObj cl_UpperSender ns_UpperSender [aD K (Cd.d (z_70.1 : Int)), aD K (Cd.d (z_70.2.1 : Int)), (aDK K (dD (z_70.2.2 : (List (Int × (List Int))))))])), none]) (N := (fun s_72 : (Int × Int × (List (Int × (List Int)))) => [some (pin pa0 (aObj cl_UpperSender ns_UpperSender [aD K (Cd.d (s_72.1 : Int)), aD K (Cd.d (s_72.2.1 : Int)), (aDK K (dD (s_72.2.2 : (List (Int × (List Int))))))])), none])) rfl rfl nd rfl rfl ⟨rfl, by decide, .inl X_BearerError.g⟩ xm_NotValid_BearerError (fun _ => Nat.le_of_ble_eq_true rfl) (fun W pn xe tk pw => (xg_st [some (pin pa0 (aObj cl_UpperSender ns_UpperSender [aD K (Cd.d (l_sender.1 : Int)), aD K (Cd.d (l_sender.2.1 : Int)), (aDK K (dD (l_sender.2.2 : (List (Int × (List Int))))))])), none] rfl (xg_orZ (fun z_68 hz_68 => (xg_exprZ (xz_meth (xx := (l_sender, [1])) cz_UpperSender_add tk T_UpperSender.cl nm_UpperSender_add (hr.mono (by decide)) hz_68 (xe_nmV 0 rfl) (Own.slot 0 rfl) (xl_of (xa_cons (xe_lstD (xs := ([1] : List Int)) (xa_cons xe_int xa_nil) (Nat.le_of_ble_eq_true rfl)) xa_nil)) (Own.slot 0 rfl) rfl rfl rfl (by simp) (by simp) (List.forall_mem_nil _) rfl) (wk_k (wk_n wk_0)))) (xg_bind fun v_69 hv_69 =>
  (xg_expr (xe_meth (xx := (l_sender, [1])) c_UpperSender_add T_UpperSender.cl nm_UpperSender_add (hr.mono (by decide)) hv_69 (xe_nmV 0 rfl) (Own.slot 0 rfl) (xl_of (xa_cons (xe_lstD (xs := ([1] : List Int)) (xa_cons xe_int xa_nil) (Nat.le_of_ble_eq_true rfl)) xa_nil)) (Own.slot 0 rfl) rfl rfl rfl (by simp) (by simp) (List.forall_mem_nil _) rfl rfl) xg_none))))) (fun W pn xe tk pw => (xg_st [some (pin pa0 (aObj cl_UpperSender ns_UpperSender [aD K (Cd.d (l_sender.1 : Int)), aD K (Cd.d (l_sender.2.1 : Int)), (aDK K (dD (l_sender.2.2 : (List (Int × (List Int))))))])), none] rfl (xg_bind fun v_73 hv_73 =>
  (xg_expr (xe_meth (xx := (l_sender, [1])) c_UpperSender_add T_UpperSender.cl nm_UpperSender_add (hr.mono (by decide)) hv_73 (xe_nmV 0 rfl) (Own.slot 0 rfl) (xl_of (xa_cons (xe_lstD (xs := ([1] : List Int)) (xa_cons xe_int xa_nil) (Nat.le_of_ble_eq_true rfl)) xa_nil)) (Own.slot 0 rfl) rfl rfl rfl (by simp) (by simp) (List.forall_mem_nil _) rfl rfl) (xg_nilS (wk_k (wk_n wk_0))))))) (fun z_70 a_74 oe pn hzc hfl => (xg_ret (A := aD K (Cd.d (true : Bool))) (xe_isE 1 E_NotValid hzc hfl X_NotValid xk_NotValid_NotValid m_isinstance (xe_nmA 1 rfl (fun _ _ _ _ q => q.2))) (wk_k (wk_k (wk_n wk_0))))) (fun s_72 => (xg_ret (A := aD K (Cd.d (false : Bool))) xe_bl (wk_k (wk_k (wk_n wk_0)))))))
def m_l_same (l_sender : (Int × Int × (List (Int × (List Int))))) (l_kept : (List (Int × (List Int)))) (l_following : Int) (l_bits : Int) : Option Bool :=
  (Option.bind (guardO (List.length l_kept < 64)) fun g_75 =>
  (Option.bind (mapO (fun l_count_76 : Int => (Option.bind (dGet l_kept l_count_76) fun d_77 => (some (l_count_76, d_77)))) (srtI (dKeys l_kept))) fun ys_78 =>
  (Option.bind (m_UpperSender_unconfirmed l_sender) fun v_79 =>
  (if ((!true) || (!(decide ((v_79 : (List (Int × (List Int)))) = ys_78)))) = true then
  (some false) else
  (Option.bind (if (!(decide ((ys_78 : (List (Int × (List Int)))) = []))) = true then
  (Option.bind (atI ys_78 0) fun x_83 =>
  (some x_83.1)) else
  (some l_following)) fun s_82 =>
  (Option.bind (m_UpperSender_may_add l_sender) fun v_84 =>
  (Option.bind (m_UpperSender_next_count l_sender) fun v_87 =>
  (Option.bind ((if (!(decide ((v_87 : Int) = l_following))) = true then some true else (orO (Option.bind (m_UpperSender_base l_sender) fun v_88 => (some (!(decide ((v_88 : Int) = s_82))))) (some (!true))))) fun c_89 =>
  (if c_89 = true then
  (some false) else
  (Option.bind (if (!(decide ((v_79 : (List (Int × (List Int)))) = []))) = true then
  (Option.bind (atI v_79 0) fun x_94 =>
  (Option.bind (guardO (List.length x_94.2 < 1000000)) fun g_96 =>
  (some ()))) else
  (some ())) fun s_93 =>
  (Option.bind (m_l_window l_bits) fun v_99 =>
  (Option.bind ((if (decide ((v_84 : Bool) = (decide ((l_following - s_82) < v_99)))) = true then (Option.bind (m_UpperSender_unconfirmed l_sender) fun v_100 => (some (decide ((v_100 : (List (Int × (List Int)))) = ys_78)))) else some false)) fun c_101 =>
  (some c_101)))))))))))))
abbrev sp_l_same (K : PySem.W.Frag) (cl_UpperSender : Addr) (cl_BearerError : Addr) (cl_NotValid : Addr) : Sp := SpM (fun x : ((Int × Int × (List (Int × (List Int)))) × (List (Int × (List Int))) × Int × Int) => [(aObj cl_UpperSender ns_UpperSender [aD K (Cd.d (x.1.1 : Int)), aD K (Cd.d (x.1.2.1 : Int)), (aDK K (dD (x.1.2.2 : (List (Int × (List Int))))))]), (aDK K (dD (x.2.1 : (List (Int × (List Int)))))), aD K (Cd.d (x.2.2.1 : Int)), aD K (Cd.d (x.2.2.2 : Int))]) (fun x => m_l_same x.1 x.2.1 x.2.2.1 x.2.2.2) (fun x (r : Bool) => [some (aObj cl_UpperSender ns_UpperSender [aD K (Cd.d (x.1.1 : Int)), aD K (Cd.d (x.1.2.1 : Int)), (aDK K (dD (x.1.2.2 : (List (Int × (List Int))))))]), some (aDK K (dD (x.2.1 : (List (Int × (List Int)))))), none, none]) (fun _ r => aD K (Cd.d (r : Bool)))
abbrev s_l_same : Stmt := topS 17
theorem sc_l_same : FnScope ["_law_sender", "_law_kept", "_law_following", "_law_bits", "_law_due", "_law_told", "_law_base", "_law_may", "_law_changed", "_law_count"] ["_law_sender", "_law_kept", "_law_following", "_law_bits"] (defScope s_l_same) := ⟨rfl, rfl, rfl, by decide +kernel, rfl, by decide +kernel, by decide +kernel⟩
set_option maxHeartbeats 4000000 in
theorem ok_l_same {P : Program} {w : World} {K : PySem.W.Frag} {mg : Str → Option Value} {base : Heap} {f : Addr} {cl_UpperSender : Addr} {cl_BearerError : Addr} {cl_NotValid : Addr} {fd : FuncData} (F : Fun K "_law_same" "_law_same" s_l_same f fd) (T_UpperSender : CF_UpperSender K cl_UpperSender) (X_BearerError : ExK K mg "BearerError" cl_BearerError) (E_BearerError : ExcC K cl_BearerError) (X_NotValid : ExK K mg "NotValid" cl_NotValid) (E_NotValid : ExcC K cl_NotValid) (xm_NotValid_BearerError : PySem.W.exmOne K (.ref cl_NotValid) (.ref cl_BearerError) = some true) (xk_NotValid_NotValid : PySem.W.kitOne K (.ref cl_NotValid) (.ref cl_NotValid) = some true) (m_bool : mg "bool" = none) (m_isinstance : mg "isinstance" = none) (m_list : mg "list" = none) (m_sorted : mg "sorted" = none) (c_UpperSender_base : CalM P w K mg base 1 cl_UpperSender "base" (sp_UpperSender_base K cl_UpperSender cl_BearerError cl_NotValid)) (c_UpperSender_may_add : CalM P w K mg base 2 cl_UpperSender "may_add" (sp_UpperSender_may_add K cl_UpperSender cl_BearerError cl_NotValid)) (c_UpperSender_next_count : CalM P w K mg base 1 cl_UpperSender "next_count" (sp_UpperSender_next_count K cl_UpperSender cl_BearerError cl_NotValid)) (c_UpperSender_unconfirmed : CalM P w K mg base 1 cl_UpperSender "unconfirmed" (sp_UpperSender_unconfirmed K cl_UpperSender cl_BearerError cl_NotValid)) (c_l_window : Cal P w K mg base 1 "_law_window" (sp_l_window K cl_UpperSender cl_BearerError cl_NotValid)) : FnOk P w K mg base CX0 3 f fd ["_law_sender", "_law_kept", "_law_following", "_law_bits"] (sp_l_same K cl_UpperSender cl_BearerError cl_NotValid) :=
  fn_ok (k := 2) [true, true, false, false] F sc_l_same rfl (fun _ => rfl) (fun _ _ => rfl) fun x vs cdv A outer s H E hv hr => by
    match x, vs, hv with
    | (l_sender, l_kept, l_following, l_bits), [pa0, pa1, pa2, pa3], _ =>
      have nd := sc_l_same.nd
      show XG _ _ [some (pin pa0 (aObj cl_UpperSender ns_UpperSender [aD K (Cd.d (l_sender.1 : Int)), aD K (Cd.d (l_sender.2.1 : Int)), (aDK K (dD (l_sender.2.2 : (List (Int × (List Int))))))])), some (pin pa1 (aDK K (dD (l_kept : (List (Int × (List Int))))))), some (aD K (Cd.d (l_following : Int))), some (aD K (Cd.d (l_bits : Int))), none, none, none, none, none, none] (m_l_same l_sender l_kept l_following l_bits) (oR fun r : Bool => [some (aD K (Cd.d (r : Bool))), some (pin pa0 (aObj cl_UpperSender ns_UpperSender [aD K (Cd.d (l_sender.1 : Int)), aD K (Cd.d (l_sender.2.1 : Int)), (aDK K (dD (l_sender.2.2 : (List (Int × (List Int))))))])), some (pin pa1 (aDK K (dD (l_kept : (List (Int × (List Int))))))), none, none, none, none, none, none, none, none])
      unfold m_l_same
      exact (xg_st [some (pin pa0 (aObj cl_UpperSender ns_UpperSender [aD K (Cd.d (l_sender.1 : Int)), aD K (Cd.d (l_sender.2.1 : Int)), (aDK K (dD (l_sender.2.2 : (List (Int × (List Int))))))])), some (pin pa1 (aDK K (dD (l_kept : (List (Int × (List Int))))))), some (aD K (Cd.d (l_following : Int))), some (aD K (Cd.d (l_bits : Int))), none, none, none, none, none, none] rfl (xg_bind fun g_75 hg_75 =>
  (xg_bind fun ys_78 hys_78 =>
  (xg_asgLc (j := 4) (xc_frz (xc_imp (xc_mapO 9 hys_78 (xi_list (xs := (srtI (dKeys l_kept))) (cv := Cd.d) (xe_frz (xe_dsorted (kvs := l_kept) rfl (guardO_eq hg_75) (xe_nmV 1 rfl) (Own.slot 1 rfl) m_sorted))) trivial (Nat.le_of_ble_eq_true rfl) (el := fun y => aD K (Cd.d (y : (Int × (List Int))))) (fun _ _ _ _ _ l_count_76 => (xem_bind fun d_77 hd_77 => (xem_some (xe_tup (ds := [Cd.d (l_count_76 : Int), Cd.d (d_77 : (List Int))]) (xa_cons (xe_nm 9 rfl) (xa_cons (xe_dget (kvs := l_kept) hr.units hd_77 (xe_nmV 1 rfl) (xe_nm 9 rfl) (Own.slot 1 rfl)) xa_nil)) (Nat.le_of_ble_eq_true rfl)))))) (aLD_map Cd.d _))) rfl rfl (sw_true rfl rfl rfl (by decide +kernel)) (xg_st [some (pin pa0 (aObj cl_UpperSender ns_UpperSender [aD K (Cd.d (l_sender.1 : Int)), aD K (Cd.d (l_sender.2.1 : Int)), (aDK K (dD (l_sender.2.2 : (List (Int × (List Int))))))])), some (pin pa1 (aDK K (dD (l_kept : (List (Int × (List Int))))))), some (aD K (Cd.d (l_following : Int))), some (aD K (Cd.d (l_bits : Int))), some (aD K (Cd.d (ys_78 : (List (Int × (List Int)))))), none, none, none, none, none] rfl (xg_bind fun v_79 hv_79 =>
  (xg_asgP 5 (xe_meth0 (xx := l_sender) c_UpperSender_unconfirmed T_UpperSender.cl nm_UpperSender_unconfirmed (hr.mono (by decide)) hv_79 (xe_nmV 0 rfl) (Own.slot 0 rfl) rfl rfl rfl rfl) fun pv_80 => (xg_st [some (pin pa0 (aObj cl_UpperSender ns_UpperSender [aD K (Cd.d (l_sender.1 : Int)), aD K (Cd.d (l_sender.2.1 : Int)), (aDK K (dD (l_sender.2.2 : (List (Int × (List Int))))))])), some (pin pa1 (aDK K (dD (l_kept : (List (Int × (List Int))))))), some (aD K (Cd.d (l_following : Int))), some (aD K (Cd.d (l_bits : Int))), some (aD K (Cd.d (ys_78 : (List (Int × (List Int)))))), some (pin pv_80 (aLP K (v_79 : (List (Int × (List Int)))))), none, none, none, none] rfl (xg_ifR (u := []) (xt_w (xw_or (xt_not (xt_v (xe_isi (T := "list") (xe_nmV 5 rfl) (xe_ty (ty := "list") m_list (by decide +kernel)) (rtyL (Own.slot 5 rfl)) (by decide +kernel) m_isinstance))) fun _ => (xw_or1 (xt_k (xkc_ne (x := (v_79 : (List (Int × (List Int))))) (y := (ys_78 : (List (Int × (List Int))))) hr.units (xe_nmV 5 rfl) (xe_nm 4 rfl) (rdLP (Own.slot 5 rfl)) rdD))))) (fun _ => (xg_ret (A := aD K (Cd.d (false : Bool))) xe_bl (wk_k (wk_k (wk_k (wk_n (wk_n (wk_n (wk_n (wk_n (wk_n (wk_n (wk_n wk_0))))))))))))) (fun _ => (xg_st [some (pin pa0 (aObj cl_UpperSender ns_UpperSender [aD K (Cd.d (l_sender.1 : Int)), aD K (Cd.d (l_sender.2.1 : Int)), (aDK K (dD (l_sender.2.2 : (List (Int × (List Int))))))])), some (pin pa1 (aDK K (dD (l_kept : (List (Int × (List Int))))))), some (aD K (Cd.d (l_following : Int))), some (aD K (Cd.d (l_bits : Int))), some (aD K (Cd.d (ys_78 : (List (Int × (List Int)))))), some (pin pv_80 (aLP K (v_79 : (List (Int × (List Int)))))), none, none, none, none] rfl (xg_asg 6 (A := aD K (Cd.d (l_following : Int))) (xe_nm 2 rfl) (xg_st [some (pin pa0 (aObj cl_UpperSender ns_UpperSender [aD K (Cd.d (l_sender.1 : Int)), aD K (Cd.d (l_sender.2.1 : Int)), (aDK K (dD (l_sender.2.2 : (List (Int × (List Int))))))])), some (pin pa1 (aDK K (dD (l_kept : (List (Int × (List Int))))))), some (aD K (Cd.d (l_following : Int))), some (aD K (Cd.d (l_bits : Int))), some (aD K (Cd.d (ys_78 : (List (Int × (List Int)))))), some (pin pv_80 (aLP K (v_79 : (List (Int × (List Int)))))), some (aD K (Cd.d (l_following : Int))), none, none, none] rfl (xg_if (N := (fun s_82 : Int => [some (pin pa0 (aObj cl_UpperSender ns_UpperSender [aD K (Cd.d (l_sender.1 : Int)), aD K (Cd.d (l_sender.2.1 : Int)), (aDK K (dD (l_sender.2.2 : (List (Int × (List Int))))))])), some (pin pa1 (aDK K (dD (l_kept : (List (Int × (List Int))))))), some (aD K (Cd.d (l_following : Int))), some (aD K (Cd.d (l_bits : Int))), some (aD K (Cd.d (ys_78 : (List (Int × (List Int)))))), some (pin pv_80 (aLP K (v_79 : (List (Int × (List Int)))))), some (aD K (Cd.d (s_82 : Int))), none, none, none])) (xt_k (xkc_ne (x := (ys_78 : (List (Int × (List Int))))) (y := ([] : (List (Int × (List Int))))) hr.units (xe_nm 4 rfl) (xe_lst xa_nil (Nat.le_of_ble_eq_true rfl)) rdD (Rls.da (Rlm.ls (rmL (ds := [])))))) (fun _ => (xg_st [some (pin pa0 (aObj cl_UpperSender ns_UpperSender [aD K (Cd.d (l_sender.1 : Int)), aD K (Cd.d (l_sender.2.1 : Int)), (aDK K (dD (l_sender.2.2 : (List (Int × (List Int))))))])), some (pin pa1 (aDK K (dD (l_kept : (List (Int × (List Int))))))), some (aD K (Cd.d (l_following : Int))), some (aD K (Cd.d (l_bits : Int))), some (aD K (Cd.d (ys_78 : (List (Int × (List Int)))))), some (pin pv_80 (aLP K (v_79 : (List (Int × (List Int)))))), some (aD K (Cd.d (l_following : Int))), none, none, none] rfl (xg_bind fun x_83 hx_83 =>
  (xg_asg 6 (A := aD K (Cd.d (x_83.1 : Int))) (xe_ixT (xc_ix (xs := ys_78) (xe_nm 4 rfl) xe_int rlD hx_83) xe_int rtD rfl) (xg_nilS (wk_k (wk_k (wk_k (wk_k (wk_k (wk_k (wk_k (wk_n (wk_n (wk_n wk_0))))))))))))))) (fun _ => (xg_nilS (wk_k (wk_k (wk_k (wk_k (wk_k (wk_k (wk_k (wk_n (wk_n (wk_n wk_0)))))))))))) (fun s_82 => (xg_st [some (pin pa0 (aObj cl_UpperSender ns_UpperSender [aD K (Cd.d (l_sender.1 : Int)), aD K (Cd.d (l_sender.2.1 : Int)), (aDK K (dD (l_sender.2.2 : (List (Int × (List Int))))))])), some (pin pa1 (aDK K (dD (l_kept : (List (Int × (List Int))))))), some (aD K (Cd.d (l_following : Int))), some (aD K (Cd.d (l_bits : Int))), some (aD K (Cd.d (ys_78 : (List (Int × (List Int)))))), some (pin pv_80 (aLP K (v_79 : (List (Int × (List Int)))))), some (aD K (Cd.d (s_82 : Int))), none, none, none] rfl (xg_bind fun v_84 hv_84 =>
  (xg_asg 7 (A := aD K (Cd.d (v_84 : Bool))) (xe_meth0 (xx := l_sender) c_UpperSender_may_add T_UpperSender.cl nm_UpperSender_may_add (hr.mono (by decide)) hv_84 (xe_nmV 0 rfl) (Own.slot 0 rfl) rfl rfl rfl rfl) (xg_st [some (pin pa0 (aObj cl_UpperSender ns_UpperSender [aD K (Cd.d (l_sender.1 : Int)), aD K (Cd.d (l_sender.2.1 : Int)), (aDK K (dD (l_sender.2.2 : (List (Int × (List Int))))))])), some (pin pa1 (aDK K (dD (l_kept : (List (Int × (List Int))))))), some (aD K (Cd.d (l_following : Int))), some (aD K (Cd.d (l_bits : Int))), some (aD K (Cd.d (ys_78 : (List (Int × (List Int)))))), some (pin pv_80 (aLP K (v_79 : (List (Int × (List Int)))))), some (aD K (Cd.d (s_82 : Int))), some (aD K (Cd.d (v_84 : Bool))), none, none] rfl (xg_bind fun v_87 hv_87 =>
  (xg_bind fun c_89 hc_89 =>
  (xg_ifR (u := []) (xt_w (xw_orM (xt_k (xkc_ne (x := (v_87 : Int)) (y := (l_following : Int)) hr.units (xe_meth0 (xx := l_sender) c_UpperSender_next_count T_UpperSender.cl nm_UpperSender_next_count (hr.mono (by decide)) hv_87 (xe_nmV 0 rfl) (Own.slot 0 rfl) rfl rfl rfl rfl) (xe_nm 2 rfl) rdD rdD)) (xwm_or (xtm_bind fun v_88 hv_88 => (xtm_some (xt_k (xkc_ne (x := (v_88 : Int)) (y := (s_82 : Int)) hr.units (xe_meth0 (xx := l_sender) c_UpperSender_base T_UpperSender.cl nm_UpperSender_base (hr.mono (by decide)) hv_88 (xe_nmV 0 rfl) (Own.slot 0 rfl) rfl rfl rfl rfl) (xe_nm 6 rfl) rdD rdD)))) (xwm_or1 (xtm_some (xt_not (xt_v (xe_isi (T := "bool") (xe_nm 7 rfl) (xe_ty (ty := "bool") m_bool (by decide +kernel)) rty_data (by decide +kernel) m_isinstance)))))) hc_89)) (fun _ => (xg_ret (A := aD K (Cd.d (false : Bool))) xe_bl (wk_k (wk_k (wk_k (wk_n (wk_n (wk_n (wk_n (wk_n (wk_n (wk_n (wk_n wk_0))))))))))))) (fun _ => (xg_st [some (pin pa0 (aObj cl_UpperSender ns_UpperSender [aD K (Cd.d (l_sender.1 : Int)), aD K (Cd.d (l_sender.2.1 : Int)), (aDK K (dD (l_sender.2.2 : (List (Int × (List Int))))))])), some (pin pa1 (aDK K (dD (l_kept : (List (Int × (List Int))))))), some (aD K (Cd.d (l_following : Int))), some (aD K (Cd.d (l_bits : Int))), some (aD K (Cd.d (ys_78 : (List (Int × (List Int)))))), some (pin pv_80 (aLP K (v_79 : (List (Int × (List Int)))))), some (aD K (Cd.d (s_82 : Int))), some (aD K (Cd.d (v_84 : Bool))), none, none] rfl (xg_if (N := (fun s_93 : Unit => [some (pin pa0 (aObj cl_UpperSender ns_UpperSender [aD K (Cd.d (l_sender.1 : Int)), aD K (Cd.d (l_sender.2.1 : Int)), (aDK K (dD (l_sender.2.2 : (List (Int × (List Int))))))])), some (pin pa1 (aDK K (dD (l_kept : (List (Int × (List Int))))))), some (aD K (Cd.d (l_following : Int))), some (aD K (Cd.d (l_bits : Int))), some (aD K (Cd.d (ys_78 : (List (Int × (List Int)))))), none, some (aD K (Cd.d (s_82 : Int))), some (aD K (Cd.d (v_84 : Bool))), none, none])) (xt_k (xkc_ne (x := (v_79 : (List (Int × (List Int))))) (y := ([] : (List (Int × (List Int))))) hr.units (xe_nmV 5 rfl) (xe_lst xa_nil (Nat.le_of_ble_eq_true rfl)) (rdLP (Own.slot 5 rfl)) (Rls.da (Rlm.ls (rmL (ds := [])))))) (fun _ => (xg_st [some (pin pa0 (aObj cl_UpperSender ns_UpperSender [aD K (Cd.d (l_sender.1 : Int)), aD K (Cd.d (l_sender.2.1 : Int)), (aDK K (dD (l_sender.2.2 : (List (Int × (List Int))))))])), some (pin pa1 (aDK K (dD (l_kept : (List (Int × (List Int))))))), some (aD K (Cd.d (l_following : Int))), some (aD K (Cd.d (l_bits : Int))), some (aD K (Cd.d (ys_78 : (List (Int × (List Int)))))), some (pin pv_80 (aLP K (v_79 : (List (Int × (List Int)))))), some (aD K (Cd.d (s_82 : Int))), some (aD K (Cd.d (v_84 : Bool))), none, none] rfl (xg_bind fun x_94 hx_94 =>
  (xg_asgP 8 (xe_lp01 5 rfl hx_94 (fun ρ' A h => xe_nmV 5 h) (fun _ => xe_int) (fun _ => xe_int)) fun pv_95 => (xg_st [some (pin pa0 (aObj cl_UpperSender ns_UpperSender [aD K (Cd.d (l_sender.1 : Int)), aD K (Cd.d (l_sender.2.1 : Int)), (aDK K (dD (l_sender.2.2 : (List (Int × (List Int))))))])), some (pin pa1 (aDK K (dD (l_kept : (List (Int × (List Int))))))), some (aD K (Cd.d (l_following : Int))), some (aD K (Cd.d (l_bits : Int))), some (aD K (Cd.d (ys_78 : (List (Int × (List Int)))))), none, some (aD K (Cd.d (s_82 : Int))), some (aD K (Cd.d (v_84 : Bool))), some (pin pv_95 (aLD K (List.map Cd.d (x_94.2 : List Int)))), none] rfl (xg_bind fun g_96 hg_96 =>
  (xg_expr (xe_appendDW (cv := Cd.d) (xs := x_94.2) (x := 7) (xe_nmV 8 rfl) (Own.slot 8 rfl) xe_int (Own.slot 8 rfl) (sz_lt (guardO_eq hg_96))) (xg_nilS (wk_k (wk_k (wk_k (wk_k (wk_k (wk_n (wk_k (wk_k (wk_n (wk_n wk_0)))))))))))))))))) (fun _ => (xg_nilS (wk_k (wk_k (wk_k (wk_k (wk_k (wk_n (wk_k (wk_k (wk_n (wk_n wk_0)))))))))))) (fun s_93 => (xg_bind fun v_99 hv_99 =>
  (xg_bind fun c_101 hc_101 =>
  (xg_ret (A := aD K (Cd.d (c_101 : Bool))) (xe_andM (xe_k (xkc_eq (x := (v_84 : Bool)) (y := ((decide ((l_following - s_82) < v_99)) : Bool)) hr.units (xe_nm 7 rfl) (xe_k (xk_lt (xe_sub (xe_nm 2 rfl) (xe_nm 6 rfl)) (xe_call (xx := l_bits) c_l_window (hr.mono (by decide)) hv_99 (xl_of (xa_cons (xe_nm 3 rfl) xa_nil)) rfl (by simp) (by simp) (List.forall_mem_nil _) rfl rfl))) rdD rdD)) (xbm_one (xbm_bind fun v_100 hv_100 => (xbm_some (xe_k (xkc_eq (x := (v_100 : (List (Int × (List Int))))) (y := (ys_78 : (List (Int × (List Int))))) hr.units (xe_meth0 (xx := l_sender) c_UpperSender_unconfirmed T_UpperSender.cl nm_UpperSender_unconfirmed (hr.mono (by decide)) hv_100 (xe_nmV 0 rfl) (Own.slot 0 rfl) rfl rfl rfl rfl) (xe_nm 4 rfl) rdLPF rdD))))) hc_101) (wk_k (wk_k (wk_k (wk_n (wk_n (wk_n (wk_n (wk_n (wk_n (wk_n (wk_n wk_0)))))))))))))))))))))))))))))))))))) (Nat.le_of_ble_eq_true rfl) rfl nd (blkOk_by (N := ["_law_sender", "_law_kept", "_law_following", "_law_bits", "_law_due", "_law_told", "_law_base", "_law_may", "_law_changed", "_law_count"]) (sc := defScope s_l_same) (by decide +kernel)) (fun _ _ _ _ _ => pg_name nd rfl (.inl rfl))))))
def m_l_reported (l_kept : (List (Int × (List Int)))) (l_first : Int) (l_later : (List Int)) : Option (List (Int × (List Int))) :=
  (Option.bind (fltO (fun l_count_104 : Int => (some ((decide (l_first ≤ l_count_104)) && (!(decide (l_count_104 ∈ l_later)))))) (fun l_count_104 : Int => (Option.bind (dGet l_kept l_count_104) fun d_105 => (some (l_count_104, d_105)))) (dKeys l_kept)) fun ys_106 =>
  (some (dOf ys_106)))
abbrev sp_l_reported (K : PySem.W.Frag) (cl_UpperSender : Addr) (cl_BearerError : Addr) (cl_NotValid : Addr) : Sp := SpM (fun x : ((List (Int × (List Int))) × Int × (List Int)) => [(aDK K (dD (x.1 : (List (Int × (List Int)))))), aD K (Cd.d (x.2.1 : Int)), aD K (Cd.d (x.2.2 : (List Int)))]) (fun x => m_l_reported x.1 x.2.1 x.2.2) (fun x (r : (List (Int × (List Int)))) => [some (aDK K (dD (x.1 : (List (Int × (List Int)))))), none, none]) (fun _ r => (aDK K (dD (r : (List (Int × (List Int)))))))
abbrev s_l_reported : Stmt := topS 18
theorem sc_l_reported : FnScope ["_law_kept", "_law_first", "_law_later", "_law_count"] ["_law_kept", "_law_first", "_law_later"] (defScope s_l_reported) := ⟨rfl, rfl, rfl, by decide +kernel, rfl, by decide +kernel, by decide +kernel⟩
set_option maxHeartbeats 4000000 in
theorem ok_l_reported {P : Program} {w : World} {K : PySem.W.Frag} {mg : Str → Option Value} {base : Heap} {f : Addr} {cl_UpperSender : Addr} {cl_BearerError : Addr} {cl_NotValid : Addr} {fd : FuncData} (F : Fun K "_law_reported" "_law_reported" s_l_reported f fd) (T_UpperSender : CF_UpperSender K cl_UpperSender) (X_BearerError : ExK K mg "BearerError" cl_BearerError) (E_BearerError : ExcC K cl_BearerError) (X_NotValid : ExK K mg "NotValid" cl_NotValid) (E_NotValid : ExcC K cl_NotValid) (xm_NotValid_BearerError : PySem.W.exmOne K (.ref cl_NotValid) (.ref cl_BearerError) = some true) (xk_NotValid_NotValid : PySem.W.kitOne K (.ref cl_NotValid) (.ref cl_NotValid) = some true) (m_dict : mg "dict" = none) : FnOk P w K mg base CX0 1 f fd ["_law_kept", "_law_first", "_law_later"] (sp_l_reported K cl_UpperSender cl_BearerError cl_NotValid) :=
  fn_ok (k := 0) [true, false, false] F sc_l_reported rfl (fun _ => rfl) (fun _ _ => rfl) fun x vs cdv A outer s H E hv hr => by
    match x, vs, hv with
    | (l_kept, l_first, l_later), [pa0, pa1, pa2], _ =>
      have nd := sc_l_reported.nd
      show XG _ _ [some (pin pa0 (aDK K (dD (l_kept : (List (Int × (List Int))))))), some (aD K (Cd.d (l_first : Int))), some (aD K (Cd.d (l_later : (List Int)))), none] (m_l_reported l_kept l_first l_later) (oR fun r : (List (Int × (List Int))) => [some ((aDK K (dD (r : (List (Int × (List Int))))))), some (pin pa0 (aDK K (dD (l_kept : (List (Int × (List Int))))))), none, none, none])
      unfold m_l_reported
      exact (xg_bind fun ys_106 hys_106 =>
  (xg_ret (A := (aDK K (dD ((dOf ys_106) : (List (Int × (List Int))))))) (xe_lock (Own.slot 0 rfl) (fun _ _ => (Own.slot 0 rfl)) (fun od_102 ws_103 => (xe_dictP (ps := ys_106) rfl (xe_lc (xc_imp (xc_fltO 3 hys_106 (xi_dkeys (kvs := l_kept) (xe_nmV 0 rfl) (Own.slot 0 rfl)) ⟨_, (Own.slot 0 rfl)⟩ (Nat.le_of_ble_eq_true rfl) (el := fun y => aD K (Cd.d (y : (Int × (List Int))))) (fun _ _ _ _ _ l_count_104 => (xtm_some (xt_w (xw_and (xt_k (xk_ge (xe_nm 3 rfl) (xe_nm 1 rfl))) fun _ => (xw_and1 (xt_k (xk_nin (xs := l_later) (xe_nm 3 rfl) (xe_nm 2 rfl) rlD))))))) (fun _ _ _ _ _ l_count_104 => (xem_bind fun d_105 hd_105 => (xem_some (xe_tup (ds := [Cd.d (l_count_104 : Int), Cd.d (d_105 : (List Int))]) (xa_cons (xe_nm 3 rfl) (xa_cons (xe_dgetL (kvs := l_kept) hr.units hd_105 (xe_nmV 0 rfl) (xe_nm 3 rfl) (Own.slot 0 rfl)) xa_nil)) (Nat.le_of_ble_eq_true rfl)))))) (aLD_map Cd.d _)) rfl nd (blkOk_by (N := ["_law_kept", "_law_first", "_law_later", "_law_count"]) (sc := defScope s_l_reported) (by decide +kernel)) (fun _ _ _ _ _ => pg_name nd rfl (.inl rfl))) (Rlm.ls rmL) m_dict)) (fun _ _ => rfl)) (wk_k (wk_k (wk_n (wk_n (wk_n wk_0)))))))
def m_law (l_script : (List Int)) : Option Bool :=
  (Option.bind (m_l_cell l_script 0) fun v_107 =>
  (lett ((4 + (v_107 % 4)) : Int) fun l_bits_108 =>
  (Option.bind (m_UpperSender___init__ l_bits_108) fun v_109 =>
  (Option.bind (m_l_many l_script 20 60) fun v_112 =>
  (Option.bind (guardO (-(2 ^ 62) ≤ (min ((List.length l_script : Nat) : Int) v_112) ∧ (min ((List.length l_script : Nat) : Int) v_112) < 2 ^ 62)) fun g_113 =>
  (thenR (foldB (fun (s_114 : ((Int × Int × (List (Int × (List Int)))) × (List (Int × (List Int))) × Int)) (l_k_115 : Int) =>
  (Option.bind (m_l_cell l_script l_k_115) fun v_117 =>
  (Option.bind (m_l_digits (v_117 + l_k_115) ([6, 70, 5, 9])) fun v_118 =>
  (Option.bind (atI v_118 0) fun x_119 =>
  (thenR (if (decide (x_119 < 4)) = true then
  (Option.bind (guardO (List.length s_114.2.1 < 64)) fun g_182 =>
  (Option.bind (guardO (List.length ([s_114.2.2]) + List.length (srtI (dKeys s_114.2.1)) ≤ 1000000)) fun g_183 =>
  (Option.bind (minI (([s_114.2.2]) ++ (srtI (dKeys s_114.2.1)))) fun min_184 =>
  (Option.bind (m_l_window l_bits_108) fun v_185 =>
  (thenR (if (decide (v_185 ≤ (s_114.2.2 - min_184))) = true then
  (Option.bind (m_l_refused s_114.1) fun v_196 =>
  (if (!v_196.1) = true then
  Option.map Sum.inl (some false) else
  (some (Sum.inr (v_196.2, s_114.2.1, s_114.2.2))))) else
  (Option.bind (m_l_cell l_script l_k_115) fun v_197 =>
  (Option.bind (atI v_118 3) fun x_198 =>
  (Option.bind (m_l_bytes v_197 x_198) fun v_199 =>
  (Option.bind (m_UpperSender_add s_114.1 v_199) fun v_201 =>
  (if (!(decide ((v_201.1 : Int) = s_114.2.2))) = true then
  Option.map Sum.inl (some false) else
  (Option.bind (guardO (List.length v_201.2.2 < 1000000)) fun g_202 =>
  (Option.bind (guardO (List.length s_114.2.1 < 1000000)) fun g_203 =>
  (lett ((s_114.2.2 + 1) : Int) fun l_following_204 =>
  (some (Sum.inr (v_201.2.1, (dPut s_114.2.1 s_114.2.2 v_199), l_following_204)))))))))))) (fun s_195 =>
  (some (Sum.inr (s_195.1, s_195.2.1, s_195.2.2)))) Sum.inl))))) else
  (Option.bind (atI v_118 0) fun x_206 =>
  (Option.bind (if (decide ((x_206 : Int) = 4)) = true then
  (Option.bind (atI v_118 1) fun x_225 =>
  (Option.bind (atI v_118 2) fun x_226 =>
  (lett ((((s_114.2.2 - 1) - (x_225 % 20)) + (x_226 % 2)) : Int) fun l_count_227 =>
  (Option.bind (m_UpperSender_confirm s_114.1 l_count_227) fun v_228 =>
  (Option.bind (m_l_reported s_114.2.1 0 ([l_count_227])) fun v_229 =>
  (some (v_228, v_229))))))) else
  (Option.bind (atI v_118 1) fun x_231 =>
  (lett ((max 0 (s_114.2.2 - x_231)) : Int) fun l_first_232 =>
  (Option.bind (atI v_118 3) fun x_233 =>
  (Option.bind (guardO (-(2 ^ 62) ≤ x_233 ∧ x_233 < 2 ^ 62)) fun g_234 =>
  (Option.bind (mapO (fun l_n_235 : Int => (Option.bind (atI v_118 2) fun x_236 => (Option.bind (mulM l_n_235 (1 + x_236)) fun p_237 => (some ((l_first_232 + 1) + p_237))))) (rangeI 0 (Int.toNat x_233))) fun ys_238 =>
  (Option.bind (m_UpperSender_take_report s_114.1 l_first_232 ys_238) fun v_239 =>
  (Option.bind (m_l_reported s_114.2.1 l_first_232 ys_238) fun v_240 =>
  (some (v_239, v_240)))))))))) fun s_224 =>
  (some (Sum.inr (s_224.1, s_224.2, s_114.2.2)))))) (fun s_181 =>
  (Option.bind (m_l_same s_181.1 s_181.2.1 s_181.2.2 l_bits_108) fun v_244 =>
  (if (!v_244) = true then
  Option.map Sum.inl (some false) else
  (some (Sum.inr (s_181.1, s_181.2.1, s_181.2.2)))))) Sum.inl))))) (rangeI 0 (Int.toNat (min ((List.length l_script : Nat) : Int) v_112))) (v_109, ([] : (List (Int × (List Int)))), 0)) (fun s_245 =>
  (some true)) id))))))
abbrev sp_law (K : PySem.W.Frag) (cl_UpperSender : Addr) (cl_BearerError : Addr) (cl_NotValid : Addr) : Sp := SpM (fun x : (List Int) => [aR K (List.map Cd.d (x : List Int))]) (fun x => m_law x) (fun x (r : Bool) => [none]) (fun _ r => aD K (Cd.d (r : Bool)))
abbrev s_law : Stmt := topS 19
theorem sc_law : FnScope ["_law_script", "_law_bits", "_law_sender", "_law_kept", "_law_following", "_law_k", "_law_digits_here", "_law_packet", "_law_passed", "_law_count", "_law_first", "_law_later", "_law_n"] ["_law_script"] (defScope s_law) := ⟨rfl, rfl, rfl, by decide +kernel, rfl, by decide +kernel, by decide +kernel⟩
set_option maxHeartbeats 4000000 in
theorem ok_law {P : Program} {w : World} {K : PySem.W.Frag} {mg : Str → Option Value} {base : Heap} {f : Addr} {cl_UpperSender : Addr} {cl_BearerError : Addr} {cl_NotValid : Addr} {fd : FuncData} (F : Fun K "law" "law" s_law f fd) (T_UpperSender : CF_UpperSender K cl_UpperSender) (X_BearerError : ExK K mg "BearerError" cl_BearerError) (E_BearerError : ExcC K cl_BearerError) (X_NotValid : ExK K mg "NotValid" cl_NotValid) (E_NotValid : ExcC K cl_NotValid) (xm_NotValid_BearerError : PySem.W.exmOne K (.ref cl_NotValid) (.ref cl_BearerError) = some true) (xk_NotValid_NotValid : PySem.W.kitOne K (.ref cl_NotValid) (.ref cl_NotValid) = some true) (m_int : mg "int" = none) (m_len : mg "len" = none) (m_list : mg "list" = none) (m_max : mg "max" = none) (m_min : mg "min" = none) (m_range : mg "range" = none) (m_sorted : mg "sorted" = none) (c_UpperSender___init__ : CalC P w K mg base 1 cl_UpperSender "UpperSender" (sp_UpperSender___init__ K cl_UpperSender cl_BearerError cl_NotValid)) (c_UpperSender_add : CalM P w K mg base 3 cl_UpperSender "add" (sp_UpperSender_add K cl_UpperSender cl_BearerError cl_NotValid)) (c_UpperSender_confirm : CalM P w K mg base 1 cl_UpperSender "confirm" (sp_UpperSender_confirm K cl_UpperSender cl_BearerError cl_NotValid)) (c_UpperSender_take_report : CalM P w K mg base 2 cl_UpperSender "take_report" (sp_UpperSender_take_report K cl_UpperSender cl_BearerError cl_NotValid)) (c_l_bytes : Cal P w K mg base 2 "_law_bytes" (sp_l_bytes K cl_UpperSender cl_BearerError cl_NotValid)) (c_l_cell : Cal P w K mg base 1 "_law_cell" (sp_l_cell K cl_UpperSender cl_BearerError cl_NotValid)) (c_l_digits : Cal P w K mg base 1 "_law_digits" (sp_l_digits K cl_UpperSender cl_BearerError cl_NotValid)) (c_l_many : Cal P w K mg base 1 "_law_many" (sp_l_many K cl_UpperSender cl_BearerError cl_NotValid)) (c_l_refused : Cal P w K mg base 4 "_law_refused" (sp_l_refused K cl_UpperSender cl_BearerError cl_NotValid)) (c_l_reported : Cal P w K mg base 1 "_law_reported" (sp_l_reported K cl_UpperSender cl_BearerError cl_NotValid)) (c_l_same : Cal P w K mg base 3 "_law_same" (sp_l_same K cl_UpperSender cl_BearerError cl_NotValid)) (c_l_window : Cal P w K mg base 1 "_law_window" (sp_l_window K cl_UpperSender cl_BearerError cl_NotValid)) : FnOk P w K mg base CX0 5 f fd ["_law_script"] (sp_law K cl_UpperSender cl_BearerError cl_NotValid) :=
  fn_ok (k := 4) [false] F sc_law rfl (fun _ => rfl) (fun _ _ => rfl) fun x vs cdv A outer s H E hv hr => by
    match x, vs, hv with
    | l_script, [pa0], _ =>
      have nd := sc_law.nd
      show XG _ _ [some (aR K (List.map Cd.d (l_script : List Int))), none, none, none, none, none, none, none, none, none, none, none, none] (m_law l_script) (oR fun r : Bool => [some (aD K (Cd.d (r : Bool))), none, none, none, none, none, none, none, none, none, none, none, none, none])
      unfold m_law
      exact (xg_st [some (aR K (List.map Cd.d (l_script : List Int))), none, none, none, none, none, none, none, none, none, none, none, none] rfl (xg_bind fun v_107 hv_107 =>
  (xg_lett fun l_bits_108 hl_bits_108 =>
  (xg_asg 1 (A := aD K (Cd.d (l_bits_108 : Int))) (xe_nv (v := ((4 + (v_107 % 4)) : Int)) (xe_add xe_int (xe_mod (by decide) (xe_int1 (xe_call (xx := (l_script, 0)) c_l_cell (hr.mono (by decide)) hv_107 (xl_of (xa_cons (xe_nmR 0 rfl) (xa_cons xe_int xa_nil))) rfl (by simp) (by simp) (List.forall_mem_nil _) rfl rfl) m_int) xe_int)) hl_bits_108) (xg_st [some (aR K (List.map Cd.d (l_script : List Int))), some (aD K (Cd.d (l_bits_108 : Int))), none, none, none, none, none, none, none, none, none, none, none] rfl (xg_bind fun v_109 hv_109 =>
  (xg_asgP 2 (xe_make (xx := l_bits_108) c_UpperSender___init__ (hr.mono (by decide)) hv_109 (xl_of (xa_cons (xe_nm 1 rfl) xa_nil)) rfl rfl rfl rfl (by simp) (by simp) (List.forall_mem_nil _) rfl) fun pv_110 => (xg_st [some (aR K (List.map Cd.d (l_script : List Int))), some (aD K (Cd.d (l_bits_108 : Int))), some (pin pv_110 (aObj cl_UpperSender ns_UpperSender [aD K (Cd.d (v_109.1 : Int)), aD K (Cd.d (v_109.2.1 : Int)), (aDK K (dD (v_109.2.2 : (List (Int × (List Int))))))])), none, none, none, none, none, none, none, none, none, none] rfl (xg_asgP 3 xe_dnew fun pv_111 => (xg_st [some (aR K (List.map Cd.d (l_script : List Int))), some (aD K (Cd.d (l_bits_108 : Int))), some (pin pv_110 (aObj cl_UpperSender ns_UpperSender [aD K (Cd.d (v_109.1 : Int)), aD K (Cd.d (v_109.2.1 : Int)), (aDK K (dD (v_109.2.2 : (List (Int × (List Int))))))])), some (pin pv_111 (aDK K (dD (([] : (List (Int × (List Int)))) : (List (Int × (List Int))))))), none, none, none, none, none, none, none, none, none] rfl (xg_asg 4 (A := aD K (Cd.d (0 : Int))) xe_int (xg_st [some (aR K (List.map Cd.d (l_script : List Int))), some (aD K (Cd.d (l_bits_108 : Int))), some (pin pv_110 (aObj cl_UpperSender ns_UpperSender [aD K (Cd.d (v_109.1 : Int)), aD K (Cd.d (v_109.2.1 : Int)), (aDK K (dD (v_109.2.2 : (List (Int × (List Int))))))])), some (pin pv_111 (aDK K (dD (([] : (List (Int × (List Int)))) : (List (Int × (List Int))))))), some (aD K (Cd.d (0 : Int))), none, none, none, none, none, none, none, none] rfl (xg_bind fun v_112 hv_112 =>
  (xg_bind fun g_113 hg_113 =>
  (by exact xg_weak (ρ := [some (aR K (List.map Cd.d (l_script : List Int))), some (aD K (Cd.d (l_bits_108 : Int))), some (pin pv_110 (aObj cl_UpperSender ns_UpperSender [aD K (Cd.d (v_109.1 : Int)), aD K (Cd.d (v_109.2.1 : Int)), (aDK K (dD (v_109.2.2 : (List (Int × (List Int))))))])), some (pin pv_111 (aDK K (dD (([] : (List (Int × (List Int)))) : (List (Int × (List Int))))))), some (aD K (Cd.d (0 : Int))), none, none, none, none, none, none, none, none]) 3 rfl imp_unpin (xg_forR (N := (fun s_114 : ((Int × Int × (List (Int × (List Int)))) × (List (Int × (List Int))) × Int) => [some (aR K (List.map Cd.d (l_script : List Int))), some (aD K (Cd.d (l_bits_108 : Int))), some (pin pv_110 (aObj cl_UpperSender ns_UpperSender [aD K (Cd.d (s_114.1.1 : Int)), aD K (Cd.d (s_114.1.2.1 : Int)), (aDK K (dD (s_114.1.2.2 : (List (Int × (List Int))))))])), some (aDK K (dD (s_114.2.1 : (List (Int × (List Int)))))), some (aD K (Cd.d (s_114.2.2 : Int))), none, none, none, none, none, none, none, none])) PassesOwn.never rfl (xi_range1 (by exact rfl) m_range (xe_min2 rfl (xc_len (xs := l_script) (xe_nmR 0 rfl) rlR m_len) (xe_call (xx := (l_script, 20, 60)) c_l_many (hr.mono (by decide)) hv_112 (xl_of (xa_cons (xe_nmR 0 rfl) (xa_cons xe_int (xa_cons xe_int xa_nil)))) rfl (by simp) (by simp) (List.forall_mem_nil _) rfl rfl) m_min) (guardO_eq hg_113)) (by exact (wk_k (wk_k (wk_k (wk_k (wk_k (wk_n (wk_n (wk_n (wk_n (wk_n (wk_n (wk_n (wk_n wk_0)))))))))))))) (fun _ => trivial) (fun _ _ => (xp_nm 5)) (fun l_k_115 s_114 => (xg_pin 3 rfl fun pv_116 => (xg_st [some (aR K (List.map Cd.d (l_script : List Int))), some (aD K (Cd.d (l_bits_108 : Int))), some (pin pv_110 (aObj cl_UpperSender ns_UpperSender [aD K (Cd.d (s_114.1.1 : Int)), aD K (Cd.d (s_114.1.2.1 : Int)), (aDK K (dD (s_114.1.2.2 : (List (Int × (List Int))))))])), some (pin pv_116 (aDK K (dD (s_114.2.1 : (List (Int × (List Int))))))), some (aD K (Cd.d (s_114.2.2 : Int))), some (aD K (Cd.d (l_k_115 : Int))), none, none, none, none, none, none, none] rfl (xg_bind fun v_117 hv_117 =>
  (xg_bind fun v_118 hv_118 =>
  (xg_asg 6 (A := aD K (Cd.d (v_118 : (List Int)))) (xe_call (xx := ((v_117 + l_k_115), [6, 70, 5, 9])) c_l_digits (hr.mono (by decide)) hv_118 (xl_of (xa_cons (xe_add (xe_call (xx := (l_script, l_k_115)) c_l_cell (hr.mono (by decide)) hv_117 (xl_of (xa_cons (xe_nmR 0 rfl) (xa_cons (xe_nm 5 rfl) xa_nil))) rfl (by simp) (by simp) (List.forall_mem_nil _) rfl rfl) (xe_nm 5 rfl)) (xa_cons (xe_frz (xe_lstD (xs := ([6, 70, 5, 9] : List Int)) (xa_cons xe_int (xa_cons xe_int (xa_cons xe_int (xa_cons xe_int xa_nil)))) (Nat.le_of_ble_eq_true rfl))) xa_nil))) rfl (by simp) (by simp) (List.forall_mem_nil _) rfl rfl) (xg_st [some (aR K (List.map Cd.d (l_script : List Int))), some (aD K (Cd.d (l_bits_108 : Int))), some (pin pv_110 (aObj cl_UpperSender ns_UpperSender [aD K (Cd.d (s_114.1.1 : Int)), aD K (Cd.d (s_114.1.2.1 : Int)), (aDK K (dD (s_114.1.2.2 : (List (Int × (List Int))))))])), some (pin pv_116 (aDK K (dD (s_114.2.1 : (List (Int × (List Int))))))), some (aD K (Cd.d (s_114.2.2 : Int))), some (aD K (Cd.d (l_k_115 : Int))), some (aD K (Cd.d (v_118 : (List Int)))), none, none, none, none, none, none] rfl (xg_bind fun x_119 hx_119 =>
  (xg_ifBB (N := (fun s_181 : ((Int × Int × (List (Int × (List Int)))) × (List (Int × (List Int))) × Int) => [some (aR K (List.map Cd.d (l_script : List Int))), some (aD K (Cd.d (l_bits_108 : Int))), some (pin pv_110 (aObj cl_UpperSender ns_UpperSender [aD K (Cd.d (s_181.1.1 : Int)), aD K (Cd.d (s_181.1.2.1 : Int)), (aDK K (dD (s_181.1.2.2 : (List (Int × (List Int))))))])), some (aDK K (dD (s_181.2.1 : (List (Int × (List Int)))))), some (aD K (Cd.d (s_181.2.2 : Int))), some (aD K (Cd.d (l_k_115 : Int))), some (aD K (Cd.d (v_118 : (List Int)))), none, none, none, none, none, none])) (xt_k (xk_lt (xc_ix (xs := v_118) (xe_nm 6 rfl) xe_int rlD hx_119) xe_int)) (fun _ => (xg_st [some (aR K (List.map Cd.d (l_script : List Int))), some (aD K (Cd.d (l_bits_108 : Int))), some (pin pv_110 (aObj cl_UpperSender ns_UpperSender [aD K (Cd.d (s_114.1.1 : Int)), aD K (Cd.d (s_114.1.2.1 : Int)), (aDK K (dD (s_114.1.2.2 : (List (Int × (List Int))))))])), some (pin pv_116 (aDK K (dD (s_114.2.1 : (List (Int × (List Int))))))), some (aD K (Cd.d (s_114.2.2 : Int))), some (aD K (Cd.d (l_k_115 : Int))), some (aD K (Cd.d (v_118 : (List Int)))), none, none, none, none, none, none] rfl (xg_bind fun g_182 hg_182 =>
  (xg_bind fun g_183 hg_183 =>
  (xg_bind fun min_184 hmin_184 =>
  (xg_bind fun v_185 hv_185 =>
  (xg_ifBB (N := (fun s_195 : ((Int × Int × (List (Int × (List Int)))) × (List (Int × (List Int))) × Int) => [some (aR K (List.map Cd.d (l_script : List Int))), some (aD K (Cd.d (l_bits_108 : Int))), some (pin pv_110 (aObj cl_UpperSender ns_UpperSender [aD K (Cd.d (s_195.1.1 : Int)), aD K (Cd.d (s_195.1.2.1 : Int)), (aDK K (dD (s_195.1.2.2 : (List (Int × (List Int))))))])), some (aDK K (dD (s_195.2.1 : (List (Int × (List Int)))))), some (aD K (Cd.d (s_195.2.2 : Int))), some (aD K (Cd.d (l_k_115 : Int))), some (aD K (Cd.d (v_118 : (List Int)))), none, none, none, none, none, none])) (xt_k (xk_ge (xe_sub (xe_nm 4 rfl) (xe_min1 (xs := (([s_114.2.2]) ++ (srtI (dKeys s_114.2.1)))) rfl hmin_184 (xc_cat (xs := [s_114.2.2]) (ys := (srtI (dKeys s_114.2.1))) (xe_lstD (xs := ([s_114.2.2] : List Int)) (xa_cons (xe_nm 4 rfl) xa_nil) (Nat.le_of_ble_eq_true rfl)) (xe_dsorted (kvs := s_114.2.1) rfl (guardO_eq hg_182) (xe_nmV 3 rfl) (Own.slot 3 rfl) m_sorted) rmL rmL (sz_of (guardO_eq hg_183))) (Rlm.ls rmL) m_min)) (xe_call (xx := l_bits_108) c_l_window (hr.mono (by decide)) hv_185 (xl_of (xa_cons (xe_nm 1 rfl) xa_nil)) rfl (by simp) (by simp) (List.forall_mem_nil _) rfl rfl))) (fun _ => (xg_st [some (aR K (List.map Cd.d (l_script : List Int))), some (aD K (Cd.d (l_bits_108 : Int))), some (pin pv_110 (aObj cl_UpperSender ns_UpperSender [aD K (Cd.d (s_114.1.1 : Int)), aD K (Cd.d (s_114.1.2.1 : Int)), (aDK K (dD (s_114.1.2.2 : (List (Int × (List Int))))))])), some (pin pv_116 (aDK K (dD (s_114.2.1 : (List (Int × (List Int))))))), some (aD K (Cd.d (s_114.2.2 : Int))), some (aD K (Cd.d (l_k_115 : Int))), some (aD K (Cd.d (v_118 : (List Int)))), none, none, none, none, none, none] rfl (xg_bind fun v_196 hv_196 =>
  (xg_ifRB (u := []) (xt_not (xt_v (xe_call (xx := s_114.1) c_l_refused (hr.mono (by decide)) hv_196 (xl_lendE 0 2 (xl_of (xa_cons (xe_nmV 2 rfl) xa_nil)) rfl rfl) rfl (by simp) (by simp) (List.forall_mem_cons.mpr ⟨rfl, (List.forall_mem_nil _)⟩) rfl rfl))) (fun _ => (xg_ret (A := aD K (Cd.d (false : Bool))) xe_bl (wk_k (wk_n (wk_n (wk_n (wk_n (wk_n (wk_n (wk_n (wk_n (wk_n (wk_n (wk_n (wk_n (wk_n wk_0)))))))))))))))) (fun _ => (by exact xg_weak (ρ := [some (aR K (List.map Cd.d (l_script : List Int))), some (aD K (Cd.d (l_bits_108 : Int))), some (pin pv_110 (aObj cl_UpperSender ns_UpperSender [aD K (Cd.d (v_196.2.1 : Int)), aD K (Cd.d (v_196.2.2.1 : Int)), (aDK K (dD (v_196.2.2.2 : (List (Int × (List Int))))))])), some (pin pv_116 (aDK K (dD (s_114.2.1 : (List (Int × (List Int))))))), some (aD K (Cd.d (s_114.2.2 : Int))), some (aD K (Cd.d (l_k_115 : Int))), some (aD K (Cd.d (v_118 : (List Int)))), none, none, none, none, none, none]) 3 rfl imp_unpin (xg_nilB (wk_k (wk_k (wk_k (wk_k (wk_k (wk_k (wk_k (wk_n (wk_n (wk_n (wk_n (wk_n (wk_n wk_0)))))))))))))))))))) (fun _ => (xg_st [some (aR K (List.map Cd.d (l_script : List Int))), some (aD K (Cd.d (l_bits_108 : Int))), some (pin pv_110 (aObj cl_UpperSender ns_UpperSender [aD K (Cd.d (s_114.1.1 : Int)), aD K (Cd.d (s_114.1.2.1 : Int)), (aDK K (dD (s_114.1.2.2 : (List (Int × (List Int))))))])), some (pin pv_116 (aDK K (dD (s_114.2.1 : (List (Int × (List Int))))))), some (aD K (Cd.d (s_114.2.2 : Int))), some (aD K (Cd.d (l_k_115 : Int))), some (aD K (Cd.d (v_118 : (List Int)))), none, none, none, none, none, none] rfl (xg_bind fun v_197 hv_197 =>
  (xg_bind fun x_198 hx_198 =>
  (xg_bind fun v_199 hv_199 =>
  (xg_asg 7 (A := aD K (Cd.d (v_199 : (List Int)))) (xe_call (xx := (v_197, x_198)) c_l_bytes (hr.mono (by decide)) hv_199 (xl_of (xa_cons (xe_call (xx := (l_script, l_k_115)) c_l_cell (hr.mono (by decide)) hv_197 (xl_of (xa_cons (xe_nmR 0 rfl) (xa_cons (xe_nm 5 rfl) xa_nil))) rfl (by simp) (by simp) (List.forall_mem_nil _) rfl rfl) (xa_cons (xc_ix (xs := v_118) (xe_nm 6 rfl) xe_int rlD hx_198) xa_nil))) rfl (by simp) (by simp) (List.forall_mem_nil _) rfl rfl) (xg_st [some (aR K (List.map Cd.d (l_script : List Int))), some (aD K (Cd.d (l_bits_108 : Int))), some (pin pv_110 (aObj cl_UpperSender ns_UpperSender [aD K (Cd.d (s_114.1.1 : Int)), aD K (Cd.d (s_114.1.2.1 : Int)), (aDK K (dD (s_114.1.2.2 : (List (Int × (List Int))))))])), some (pin pv_116 (aDK K (dD (s_114.2.1 : (List (Int × (List Int))))))), some (aD K (Cd.d (s_114.2.2 : Int))), some (aD K (Cd.d (l_k_115 : Int))), some (aD K (Cd.d (v_118 : (List Int)))), some (aD K (Cd.d (v_199 : (List Int)))), none, none, none, none, none] rfl (xg_asgP 8 (xe_list (xe_nm 7 rfl) rlD m_list) fun pv_200 => (xg_st [some (aR K (List.map Cd.d (l_script : List Int))), some (aD K (Cd.d (l_bits_108 : Int))), some (pin pv_110 (aObj cl_UpperSender ns_UpperSender [aD K (Cd.d (s_114.1.1 : Int)), aD K (Cd.d (s_114.1.2.1 : Int)), (aDK K (dD (s_114.1.2.2 : (List (Int × (List Int))))))])), some (pin pv_116 (aDK K (dD (s_114.2.1 : (List (Int × (List Int))))))), some (aD K (Cd.d (s_114.2.2 : Int))), some (aD K (Cd.d (l_k_115 : Int))), some (aD K (Cd.d (v_118 : (List Int)))), some (aD K (Cd.d (v_199 : (List Int)))), some (pin pv_200 (aLD K (List.map Cd.d (v_199 : List Int)))), none, none, none, none] rfl (xg_bind fun v_201 hv_201 =>
  (xg_ifRB (u := []) (xt_k (xkc_ne (x := (v_201.1 : Int)) (y := (s_114.2.2 : Int)) hr.units (xe_meth (xx := (s_114.1, v_199)) c_UpperSender_add T_UpperSender.cl nm_UpperSender_add (hr.mono (by decide)) hv_201 (xe_nmV 2 rfl) (Own.slot 2 rfl) (xl_lendE 0 8 (xl_of (xa_cons (xe_nmV 8 rfl) xa_nil)) rfl rfl) (Own.slot 2 rfl) rfl rfl rfl (by simp) (by simp) (List.forall_mem_cons.mpr ⟨rfl, (List.forall_mem_nil _)⟩) rfl rfl) (xe_nm 4 rfl) rdD rdD)) (fun _ => (xg_ret (A := aD K (Cd.d (false : Bool))) xe_bl (wk_k (wk_n (wk_n (wk_n (wk_n (wk_n (wk_n (wk_n (wk_n (wk_n (wk_n (wk_n (wk_n (wk_n wk_0)))))))))))))))) (fun _ => (xg_st [some (aR K (List.map Cd.d (l_script : List Int))), some (aD K (Cd.d (l_bits_108 : Int))), some (pin pv_110 (aObj cl_UpperSender ns_UpperSender [aD K (Cd.d (v_201.2.1.1 : Int)), aD K (Cd.d (v_201.2.1.2.1 : Int)), (aDK K (dD (v_201.2.1.2.2 : (List (Int × (List Int))))))])), some (pin pv_116 (aDK K (dD (s_114.2.1 : (List (Int × (List Int))))))), some (aD K (Cd.d (s_114.2.2 : Int))), some (aD K (Cd.d (l_k_115 : Int))), some (aD K (Cd.d (v_118 : (List Int)))), some (aD K (Cd.d (v_199 : (List Int)))), some (pin pv_200 (aLD K (List.map Cd.d (v_201.2.2 : List Int)))), none, none, none, none] rfl (xg_bind fun g_202 hg_202 =>
  (xg_expr (xe_appendDW (cv := Cd.d) (xs := v_201.2.2) (x := 3) (xe_nmV 8 rfl) (Own.slot 8 rfl) xe_int (Own.slot 8 rfl) (sz_lt (guardO_eq hg_202))) (xg_st [some (aR K (List.map Cd.d (l_script : List Int))), some (aD K (Cd.d (l_bits_108 : Int))), some (pin pv_110 (aObj cl_UpperSender ns_UpperSender [aD K (Cd.d (v_201.2.1.1 : Int)), aD K (Cd.d (v_201.2.1.2.1 : Int)), (aDK K (dD (v_201.2.1.2.2 : (List (Int × (List Int))))))])), some (pin pv_116 (aDK K (dD (s_114.2.1 : (List (Int × (List Int))))))), some (aD K (Cd.d (s_114.2.2 : Int))), some (aD K (Cd.d (l_k_115 : Int))), some (aD K (Cd.d (v_118 : (List Int)))), some (aD K (Cd.d (v_199 : (List Int)))), some (pin pv_200 (aLD K (List.map Cd.d ((v_201.2.2 ++ [3]) : List Int)))), none, none, none, none] rfl (xg_bind fun g_203 hg_203 =>
  (xg_dput (kvs := s_114.2.1) (x := v_199) hr.units (guardO_eq hg_203) (xe_nm 7 rfl) (xe_nmV 3 rfl) (xe_nm 4 rfl) (Own.slot 3 rfl) (xg_st [some (aR K (List.map Cd.d (l_script : List Int))), some (aD K (Cd.d (l_bits_108 : Int))), some (pin pv_110 (aObj cl_UpperSender ns_UpperSender [aD K (Cd.d (v_201.2.1.1 : Int)), aD K (Cd.d (v_201.2.1.2.1 : Int)), (aDK K (dD (v_201.2.1.2.2 : (List (Int × (List Int))))))])), some (pin pv_116 (aDK K (dD ((dPut s_114.2.1 s_114.2.2 v_199) : (List (Int × (List Int))))))), some (aD K (Cd.d (s_114.2.2 : Int))), some (aD K (Cd.d (l_k_115 : Int))), some (aD K (Cd.d (v_118 : (List Int)))), some (aD K (Cd.d (v_199 : (List Int)))), some (pin pv_200 (aLD K (List.map Cd.d ((v_201.2.2 ++ [3]) : List Int)))), none, none, none, none] rfl (xg_lett fun l_following_204 hl_following_204 =>
  (xg_asg 4 (A := aD K (Cd.d (l_following_204 : Int))) (xe_nv (v := ((s_114.2.2 + 1) : Int)) (xe_add (xe_nm 4 rfl) xe_int) hl_following_204) (by exact xg_weak (ρ := [some (aR K (List.map Cd.d (l_script : List Int))), some (aD K (Cd.d (l_bits_108 : Int))), some (pin pv_110 (aObj cl_UpperSender ns_UpperSender [aD K (Cd.d (v_201.2.1.1 : Int)), aD K (Cd.d (v_201.2.1.2.1 : Int)), (aDK K (dD (v_201.2.1.2.2 : (List (Int × (List Int))))))])), some (pin pv_116 (aDK K (dD ((dPut s_114.2.1 s_114.2.2 v_199) : (List (Int × (List Int))))))), some (aD K (Cd.d (l_following_204 : Int))), some (aD K (Cd.d (l_k_115 : Int))), some (aD K (Cd.d (v_118 : (List Int)))), some (aD K (Cd.d (v_199 : (List Int)))), some (pin pv_200 (aLD K (List.map Cd.d ((v_201.2.2 ++ [3]) : List Int)))), none, none, none, none]) 3 rfl imp_unpin (xg_nilB (wk_k (wk_k (wk_k (wk_k (wk_k (wk_k (wk_k (wk_n (wk_n (wk_n (wk_n (wk_n (wk_n wk_0)))))))))))))))))))))))))))))))))))) (fun s_195 => (xg_pin 3 rfl fun pv_205 => (by exact xg_weak (ρ := [some (aR K (List.map Cd.d (l_script : List Int))), some (aD K (Cd.d (l_bits_108 : Int))), some (pin pv_110 (aObj cl_UpperSender ns_UpperSender [aD K (Cd.d (s_195.1.1 : Int)), aD K (Cd.d (s_195.1.2.1 : Int)), (aDK K (dD (s_195.1.2.2 : (List (Int × (List Int))))))])), some (pin pv_205 (aDK K (dD (s_195.2.1 : (List (Int × (List Int))))))), some (aD K (Cd.d (s_195.2.2 : Int))), some (aD K (Cd.d (l_k_115 : Int))), some (aD K (Cd.d (v_118 : (List Int)))), none, none, none, none, none, none]) 3 rfl imp_unpin (xg_nilB (wk_k (wk_k (wk_k (wk_k (wk_k (wk_k (wk_k (wk_n (wk_n (wk_n (wk_n (wk_n (wk_n wk_0)))))))))))))))))))))))) (fun _ => (xg_st [some (aR K (List.map Cd.d (l_script : List Int))), some (aD K (Cd.d (l_bits_108 : Int))), some (pin pv_110 (aObj cl_UpperSender ns_UpperSender [aD K (Cd.d (s_114.1.1 : Int)), aD K (Cd.d (s_114.1.2.1 : Int)), (aDK K (dD (s_114.1.2.2 : (List (Int × (List Int))))))])), some (pin pv_116 (aDK K (dD (s_114.2.1 : (List (Int × (List Int))))))), some (aD K (Cd.d (s_114.2.2 : Int))), some (aD K (Cd.d (l_k_115 : Int))), some (aD K (Cd.d (v_118 : (List Int)))), none, none, none, none, none, none] rfl (xg_bind fun x_206 hx_206 =>
  (xg_if (N := (fun s_224 : ((Int × Int × (List (Int × (List Int)))) × (List (Int × (List Int)))) => [some (aR K (List.map Cd.d (l_script : List Int))), some (aD K (Cd.d (l_bits_108 : Int))), some (pin pv_110 (aObj cl_UpperSender ns_UpperSender [aD K (Cd.d (s_224.1.1 : Int)), aD K (Cd.d (s_224.1.2.1 : Int)), (aDK K (dD (s_224.1.2.2 : (List (Int × (List Int))))))])), some (aDK K (dD (s_224.2 : (List (Int × (List Int)))))), some (aD K (Cd.d (s_114.2.2 : Int))), some (aD K (Cd.d (l_k_115 : Int))), some (aD K (Cd.d (v_118 : (List Int)))), none, none, none, none, none, none])) (xt_k (xkc_eq (x := (x_206 : Int)) (y := (4 : Int)) hr.units (xc_ix (xs := v_118) (xe_nm 6 rfl) xe_int rlD hx_206) xe_int rdD rdD)) (fun _ => (xg_st [some (aR K (List.map Cd.d (l_script : List Int))), some (aD K (Cd.d (l_bits_108 : Int))), some (pin pv_110 (aObj cl_UpperSender ns_UpperSender [aD K (Cd.d (s_114.1.1 : Int)), aD K (Cd.d (s_114.1.2.1 : Int)), (aDK K (dD (s_114.1.2.2 : (List (Int × (List Int))))))])), some (pin pv_116 (aDK K (dD (s_114.2.1 : (List (Int × (List Int))))))), some (aD K (Cd.d (s_114.2.2 : Int))), some (aD K (Cd.d (l_k_115 : Int))), some (aD K (Cd.d (v_118 : (List Int)))), none, none, none, none, none, none] rfl (xg_bind fun x_225 hx_225 =>
  (xg_bind fun x_226 hx_226 =>
  (xg_lett fun l_count_227 hl_count_227 =>
  (xg_asg 9 (A := aD K (Cd.d (l_count_227 : Int))) (xe_nv (v := ((((s_114.2.2 - 1) - (x_225 % 20)) + (x_226 % 2)) : Int)) (xe_add (xe_sub (xe_sub (xe_nm 4 rfl) xe_int) (xe_mod (by decide) (xc_ix (xs := v_118) (xe_nm 6 rfl) xe_int rlD hx_225) xe_int)) (xe_mod (by decide) (xc_ix (xs := v_118) (xe_nm 6 rfl) xe_int rlD hx_226) xe_int)) hl_count_227) (xg_st [some (aR K (List.map Cd.d (l_script : List Int))), some (aD K (Cd.d (l_bits_108 : Int))), some (pin pv_110 (aObj cl_UpperSender ns_UpperSender [aD K (Cd.d (s_114.1.1 : Int)), aD K (Cd.d (s_114.1.2.1 : Int)), (aDK K (dD (s_114.1.2.2 : (List (Int × (List Int))))))])), some (pin pv_116 (aDK K (dD (s_114.2.1 : (List (Int × (List Int))))))), some (aD K (Cd.d (s_114.2.2 : Int))), some (aD K (Cd.d (l_k_115 : Int))), some (aD K (Cd.d (v_118 : (List Int)))), none, none, some (aD K (Cd.d (l_count_227 : Int))), none, none, none] rfl (xg_bind fun v_228 hv_228 =>
  (xg_expr (xe_meth (xx := (s_114.1, l_count_227)) c_UpperSender_confirm T_UpperSender.cl nm_UpperSender_confirm (hr.mono (by decide)) hv_228 (xe_nmV 2 rfl) (Own.slot 2 rfl) (xl_of (xa_cons (xe_nm 9 rfl) xa_nil)) (Own.slot 2 rfl) rfl rfl rfl (by simp) (by simp) (List.forall_mem_nil _) rfl rfl) (xg_st [some (aR K (List.map Cd.d (l_script : List Int))), some (aD K (Cd.d (l_bits_108 : Int))), some (pin pv_110 (aObj cl_UpperSender ns_UpperSender [aD K (Cd.d (v_228.1 : Int)), aD K (Cd.d (v_228.2.1 : Int)), (aDK K (dD (v_228.2.2 : (List (Int × (List Int))))))])), some (pin pv_116 (aDK K (dD (s_114.2.1 : (List (Int × (List Int))))))), some (aD K (Cd.d (s_114.2.2 : Int))), some (aD K (Cd.d (l_k_115 : Int))), some (aD K (Cd.d (v_118 : (List Int)))), none, none, some (aD K (Cd.d (l_count_227 : Int))), none, none, none] rfl (xg_bind fun v_229 hv_229 =>
  (xg_asgP 3 (xe_call (xx := (s_114.2.1, 0, [l_count_227])) c_l_reported (hr.mono (by decide)) hv_229 (xl_lendE 0 3 (xl_of (xa_cons (xe_nmV 3 rfl) (xa_cons xe_int (xa_cons (xe_frz (xe_lstD (xs := ([l_count_227] : List Int)) (xa_cons (xe_nm 9 rfl) xa_nil) (Nat.le_of_ble_eq_true rfl))) xa_nil)))) rfl rfl) rfl (by simp) (by simp) (List.forall_mem_cons.mpr ⟨rfl, (List.forall_mem_nil _)⟩) rfl rfl) fun pv_230 => (by exact xg_weak (ρ := [some (aR K (List.map Cd.d (l_script : List Int))), some (aD K (Cd.d (l_bits_108 : Int))), some (pin pv_110 (aObj cl_UpperSender ns_UpperSender [aD K (Cd.d (v_228.1 : Int)), aD K (Cd.d (v_228.2.1 : Int)), (aDK K (dD (v_228.2.2 : (List (Int × (List Int))))))])), some (pin pv_230 (aDK K (dD (v_229 : (List (Int × (List Int))))))), some (aD K (Cd.d (s_114.2.2 : Int))), some (aD K (Cd.d (l_k_115 : Int))), some (aD K (Cd.d (v_118 : (List Int)))), none, none, some (aD K (Cd.d (l_count_227 : Int))), none, none, none]) 3 rfl imp_unpin (xg_nilS (wk_k (wk_k (wk_k (wk_k (wk_k (wk_k (wk_k (wk_n (wk_n (wk_n (wk_n (wk_n (wk_n wk_0))))))))))))))))))))))))))) (fun _ => (xg_st [some (aR K (List.map Cd.d (l_script : List Int))), some (aD K (Cd.d (l_bits_108 : Int))), some (pin pv_110 (aObj cl_UpperSender ns_UpperSender [aD K (Cd.d (s_114.1.1 : Int)), aD K (Cd.d (s_114.1.2.1 : Int)), (aDK K (dD (s_114.1.2.2 : (List (Int × (List Int))))))])), some (pin pv_116 (aDK K (dD (s_114.2.1 : (List (Int × (List Int))))))), some (aD K (Cd.d (s_114.2.2 : Int))), some (aD K (Cd.d (l_k_115 : Int))), some (aD K (Cd.d (v_118 : (List Int)))), none, none, none, none, none, none] rfl (xg_bind fun x_231 hx_231 =>
  (xg_lett fun l_first_232 hl_first_232 =>
  (xg_asg 10 (A := aD K (Cd.d (l_first_232 : Int))) (xe_nv (v := ((max 0 (s_114.2.2 - x_231)) : Int)) (xe_max2 rfl xe_int (xe_sub (xe_nm 4 rfl) (xc_ix (xs := v_118) (xe_nm 6 rfl) xe_int rlD hx_231)) m_max) hl_first_232) (xg_st [some (aR K (List.map Cd.d (l_script : List Int))), some (aD K (Cd.d (l_bits_108 : Int))), some (pin pv_110 (aObj cl_UpperSender ns_UpperSender [aD K (Cd.d (s_114.1.1 : Int)), aD K (Cd.d (s_114.1.2.1 : Int)), (aDK K (dD (s_114.1.2.2 : (List (Int × (List Int))))))])), some (pin pv_116 (aDK K (dD (s_114.2.1 : (List (Int × (List Int))))))), some (aD K (Cd.d (s_114.2.2 : Int))), some (aD K (Cd.d (l_k_115 : Int))), some (aD K (Cd.d (v_118 : (List Int)))), none, none, none, some (aD K (Cd.d (l_first_232 : Int))), none, none] rfl (xg_bind fun x_233 hx_233 =>
  (xg_bind fun g_234 hg_234 =>
  (xg_bind fun ys_238 hys_238 =>
  (xg_asgLc (j := 11) (xc_frz (xc_imp (xc_mapO 12 hys_238 (xi_range1 (by exact rfl) m_range (xc_ix (xs := v_118) (xe_nm 6 rfl) xe_int rlD hx_233) (guardO_eq hg_234)) trivial (Nat.le_of_ble_eq_true rfl) (el := fun y => aD K (Cd.d (y : Int))) (fun _ _ _ _ _ l_n_235 => (xem_bind fun x_236 hx_236 => (xem_bind fun p_237 hp_237 => (xem_some (xe_add (xe_add (xe_nm 10 rfl) xe_int) (xe_isI (xe_mul (mulM_eq hp_237).1 (xe_nm 12 rfl) (xe_add xe_int (xc_ix (xs := v_118) (xe_nm 6 rfl) xe_int rlD hx_236))) (mulM_eq hp_237).2))))))) (aLD_map Cd.d _))) rfl rfl (sw_true rfl rfl rfl (by decide +kernel)) (xg_st [some (aR K (List.map Cd.d (l_script : List Int))), some (aD K (Cd.d (l_bits_108 : Int))), some (pin pv_110 (aObj cl_UpperSender ns_UpperSender [aD K (Cd.d (s_114.1.1 : Int)), aD K (Cd.d (s_114.1.2.1 : Int)), (aDK K (dD (s_114.1.2.2 : (List (Int × (List Int))))))])), some (pin pv_116 (aDK K (dD (s_114.2.1 : (List (Int × (List Int))))))), some (aD K (Cd.d (s_114.2.2 : Int))), some (aD K (Cd.d (l_k_115 : Int))), some (aD K (Cd.d (v_118 : (List Int)))), none, none, none, some (aD K (Cd.d (l_first_232 : Int))), some (aD K (Cd.d (ys_238 : (List Int)))), none] rfl (xg_bind fun v_239 hv_239 =>
  (xg_expr (xe_meth (xx := (s_114.1, l_first_232, ys_238)) c_UpperSender_take_report T_UpperSender.cl nm_UpperSender_take_report (hr.mono (by decide)) hv_239 (xe_nmV 2 rfl) (Own.slot 2 rfl) (xl_of (xa_cons (xe_nm 10 rfl) (xa_cons (xe_frz (xe_list (xe_nm 11 rfl) rlD m_list)) xa_nil))) (Own.slot 2 rfl) rfl rfl rfl (by simp) (by simp) (List.forall_mem_nil _) rfl rfl) (xg_st [some (aR K (List.map Cd.d (l_script : List Int))), some (aD K (Cd.d (l_bits_108 : Int))), some (pin pv_110 (aObj cl_UpperSender ns_UpperSender [aD K (Cd.d (v_239.1 : Int)), aD K (Cd.d (v_239.2.1 : Int)), (aDK K (dD (v_239.2.2 : (List (Int × (List Int))))))])), some (pin pv_116 (aDK K (dD (s_114.2.1 : (List (Int × (List Int))))))), some (aD K (Cd.d (s_114.2.2 : Int))), some (aD K (Cd.d (l_k_115 : Int))), some (aD K (Cd.d (v_118 : (List Int)))), none, none, none, some (aD K (Cd.d (l_first_232 : Int))), some (aD K (Cd.d (ys_238 : (List Int)))), none] rfl (xg_bind fun v_240 hv_240 =>
  (xg_asgP 3 (xe_call (xx := (s_114.2.1, l_first_232, ys_238)) c_l_reported (hr.mono (by decide)) hv_240 (xl_lendE 0 3 (xl_of (xa_cons (xe_nmV 3 rfl) (xa_cons (xe_nm 10 rfl) (xa_cons (xe_nm 11 rfl) xa_nil)))) rfl rfl) rfl (by simp) (by simp) (List.forall_mem_cons.mpr ⟨rfl, (List.forall_mem_nil _)⟩) rfl rfl) fun pv_241 => (by exact xg_weak (ρ := [some (aR K (List.map Cd.d (l_script : List Int))), some (aD K (Cd.d (l_bits_108 : Int))), some (pin pv_110 (aObj cl_UpperSender ns_UpperSender [aD K (Cd.d (v_239.1 : Int)), aD K (Cd.d (v_239.2.1 : Int)), (aDK K (dD (v_239.2.2 : (List (Int × (List Int))))))])), some (pin pv_241 (aDK K (dD (v_240 : (List (Int × (List Int))))))), some (aD K (Cd.d (s_114.2.2 : Int))), some (aD K (Cd.d (l_k_115 : Int))), some (aD K (Cd.d (v_118 : (List Int)))), none, none, none, some (aD K (Cd.d (l_first_232 : Int))), some (aD K (Cd.d (ys_238 : (List Int)))), none]) 3 rfl imp_unpin (xg_nilS (wk_k (wk_k (wk_k (wk_k (wk_k (wk_k (wk_k (wk_n (wk_n (wk_n (wk_n (wk_n (wk_n wk_0))))))))))))))))))))) (Nat.le_of_ble_eq_true rfl) rfl nd (blkOk_by (N := ["_law_script", "_law_bits", "_law_sender", "_law_kept", "_law_following", "_law_k", "_law_digits_here", "_law_packet", "_law_passed", "_law_count", "_law_first", "_law_later", "_law_n"]) (sc := defScope s_law) (by decide +kernel)) (fun _ _ _ _ _ => pg_name nd rfl (.inl rfl)))))))))))) (fun s_224 => (xg_pin 3 rfl fun pv_242 => (by exact xg_weak (ρ := [some (aR K (List.map Cd.d (l_script : List Int))), some (aD K (Cd.d (l_bits_108 : Int))), some (pin pv_110 (aObj cl_UpperSender ns_UpperSender [aD K (Cd.d (s_224.1.1 : Int)), aD K (Cd.d (s_224.1.2.1 : Int)), (aDK K (dD (s_224.1.2.2 : (List (Int × (List Int))))))])), some (pin pv_242 (aDK K (dD (s_224.2 : (List (Int × (List Int))))))), some (aD K (Cd.d (s_114.2.2 : Int))), some (aD K (Cd.d (l_k_115 : Int))), some (aD K (Cd.d (v_118 : (List Int)))), none, none, none, none, none, none]) 3 rfl imp_unpin (xg_nilB (wk_k (wk_k (wk_k (wk_k (wk_k (wk_k (wk_k (wk_n (wk_n (wk_n (wk_n (wk_n (wk_n wk_0))))))))))))))))))))) (fun s_181 => (xg_pin 3 rfl fun pv_243 => (xg_st [some (aR K (List.map Cd.d (l_script : List Int))), some (aD K (Cd.d (l_bits_108 : Int))), some (pin pv_110 (aObj cl_UpperSender ns_UpperSender [aD K (Cd.d (s_181.1.1 : Int)), aD K (Cd.d (s_181.1.2.1 : Int)), (aDK K (dD (s_181.1.2.2 : (List (Int × (List Int))))))])), some (pin pv_243 (aDK K (dD (s_181.2.1 : (List (Int × (List Int))))))), some (aD K (Cd.d (s_181.2.2 : Int))), some (aD K (Cd.d (l_k_115 : Int))), some (aD K (Cd.d (v_118 : (List Int)))), none, none, none, none, none, none] rfl (xg_bind fun v_244 hv_244 =>
  (xg_ifRB (u := []) (xt_not (xt_v (xe_call (xx := (s_181.1, s_181.2.1, s_181.2.2, l_bits_108)) c_l_same (hr.mono (by decide)) hv_244 (xl_lendE 1 3 (xl_lendE 0 2 (xl_of (xa_cons (xe_nmV 2 rfl) (xa_cons (xe_nmV 3 rfl) (xa_cons (xe_nm 4 rfl) (xa_cons (xe_nm 1 rfl) xa_nil))))) rfl rfl) rfl rfl) rfl (by simp) (by simp) (List.forall_mem_cons.mpr ⟨rfl, (List.forall_mem_cons.mpr ⟨rfl, (List.forall_mem_nil _)⟩)⟩) rfl rfl))) (fun _ => (xg_ret (A := aD K (Cd.d (false : Bool))) xe_bl (wk_k (wk_n (wk_n (wk_n (wk_n (wk_n (wk_n (wk_n (wk_n (wk_n (wk_n (wk_n (wk_n (wk_n wk_0)))))))))))))))) (fun _ => (by exact xg_weak (ρ := [some (aR K (List.map Cd.d (l_script : List Int))), some (aD K (Cd.d (l_bits_108 : Int))), some (pin pv_110 (aObj cl_UpperSender ns_UpperSender [aD K (Cd.d (s_181.1.1 : Int)), aD K (Cd.d (s_181.1.2.1 : Int)), (aDK K (dD (s_181.1.2.2 : (List (Int × (List Int))))))])), some (pin pv_243 (aDK K (dD (s_181.2.1 : (List (Int × (List Int))))))), some (aD K (Cd.d (s_181.2.2 : Int))), some (aD K (Cd.d (l_k_115 : Int))), some (aD K (Cd.d (v_118 : (List Int)))), none, none, none, none, none, none]) 3 rfl imp_unpin (xg_nilB (wk_k (wk_k (wk_k (wk_k (wk_k (wk_n (wk_n (wk_n (wk_n (wk_n (wk_n (wk_n (wk_n wk_0)))))))))))))))))))))))))))))) (fun s_245 => (xg_pin 3 rfl fun pv_246 => (xg_ret (A := aD K (Cd.d (true : Bool))) xe_bl (wk_k (wk_n (wk_n (wk_n (wk_n (wk_n (wk_n (wk_n (wk_n (wk_n (wk_n (wk_n (wk_n (wk_n wk_0)))))))))))))))))))))))))))))))))

theorem cell_some (ns : List Int) (k : Int) (hk : 0 ≤ k) : ∃ v, m_l_cell ns k = some v := by
  unfold m_l_cell
  by_cases h : k < (ns.length : Int)
  · rw [if_pos (decide_eq_true h)]
    obtain ⟨x, e, _⟩ := atI_lt hk h
    exact ⟨x, by rw [e]; rfl⟩
  · rw [if_neg (by simp [h])]
    exact ⟨0, rfl⟩

theorem digits_fold (c : Int) : ∀ (bs : List Int) (ds : List Int) (r : Int), (∀ b ∈ bs, 0 < b ∧ b < 2 ^ 64) → ds.length + bs.length ≤ 100 →
    ∃ ds' r', List.foldlM (fun (s_10 : ((List Int) × Int)) (l_base_11 : Int) =>
  (Option.bind (if (decide (1000000000000000000 ≤ c)) = true then
  (Option.bind (modM s_10.2 l_base_11) fun r_21 =>
  (Option.bind (guardO (List.length s_10.1 < 1000000)) fun g_22 =>
  (Option.bind (divM s_10.2 l_base_11) fun q_23 =>
  (some ((s_10.1 ++ [r_21]), q_23))))) else
  (lett (((((s_10.2 * 48271) + (1009 * ((List.length s_10.1 : Nat) : Int))) + 12345) % 2147483647) : Int) fun l_rest_24 =>
  (Option.bind (mulM l_rest_24 l_rest_24) fun p_25 =>
  (lett ((p_25 % 2147483629) : Int) fun l_mixed_26 =>
  (Option.bind (modM (l_mixed_26 / 13) l_base_11) fun r_27 =>
  (Option.bind (guardO (List.length s_10.1 < 1000000)) fun g_28 =>
  (some ((s_10.1 ++ [r_27]), l_rest_24)))))))) fun s_20 =>
  (some (s_20.1, s_20.2)))) (ds, r) bs = some (ds ++ ds', r') ∧ F2 (fun d b => 0 ≤ d ∧ d < b) ds' bs
  | [], ds, r, _, _ => ⟨[], r, by simp, .nil⟩
  | b :: bs, ds, r, h, hl => by
    obtain ⟨hb1, hb2⟩ := h b (by simp)
    have hl' : ds.length + (bs.length + 1) ≤ 100 := by simpa using hl
    have g : guardO (ds.length < 1000000) = some () := guardO_some (by omega)
    by_cases hc : 1000000000000000000 ≤ c
    · obtain ⟨ds', r', e, f⟩ := digits_fold c bs (ds ++ [r % b]) (r / b) (fun x hx => h x (by simp [hx])) (by simp; omega)
      refine ⟨(r % b) :: ds', r', ?_, .cons ⟨Int.emod_nonneg _ (by omega), Int.emod_lt_of_pos _ hb1⟩ f⟩
      rw [List.foldlM_cons]
      rw [if_pos (decide_eq_true hc), modM_some hb1, bsome, g, bsome, divM_some ⟨hb1, hb2⟩]
      rw [List.append_assoc] at e
      exact e
    · obtain ⟨q, hq⟩ : ∃ q, q = ((((r * 48271) + (1009 * ((List.length ds : Nat) : Int))) + 12345) % 2147483647) := ⟨_, rfl⟩
      have hr0 := Int.emod_nonneg ((r * 48271) + (1009 * ((List.length ds : Nat) : Int)) + 12345) (show (2147483647 : Int) ≠ 0 by decide)
      have hr1 := Int.emod_lt_of_pos ((r * 48271) + (1009 * ((List.length ds : Nat) : Int)) + 12345) (show (0 : Int) < 2147483647 by decide)
      rw [← hq] at hr0 hr1
      obtain ⟨ds', r', e, f⟩ := digits_fold c bs (ds ++ [(q * q % 2147483629) / 13 % b]) q (fun x hx => h x (by simp [hx])) (by simp; omega)
      refine ⟨((q * q % 2147483629) / 13 % b) :: ds', r', ?_, .cons ⟨Int.emod_nonneg _ (by omega), Int.emod_lt_of_pos _ hb1⟩ f⟩
      rw [List.foldlM_cons]
      rw [if_neg (by simp [hc])]
      simp only [lett]
      rw [← hq, mulM_some (.inl ⟨by omega, by omega⟩), bsome, modM_some hb1, bsome, g]
      rw [List.append_assoc] at e
      exact e
theorem digits_some (c : Int) (bs : List Int) (h : ∀ b ∈ bs, 0 < b ∧ b < 2 ^ 64) (hl : bs.length ≤ 100) : ∃ ds, m_l_digits c bs = some ds ∧ F2 (fun d b => 0 ≤ d ∧ d < b) ds bs := by
  obtain ⟨ds, r, e, f⟩ := digits_fold c bs [] c h (by simpa using hl)
  refine ⟨ds, ?_, f⟩
  unfold m_l_digits
  rw [List.nil_append] at e
  rw [e]
  rfl
structure BH (bits half : Int) : Prop where
  r : (bits = 4 ∧ half = 8) ∨ (bits = 5 ∧ half = 16) ∨ (bits = 6 ∧ half = 32) ∨ (bits = 7 ∧ half = 64)
theorem BH.sz {bits half : Int} (h : BH bits half) : atI ([1, 2, 4, 8, 16, 32, 64, 128] : List Int) bits = some (2 * half) := by
  rcases h.r with ⟨rfl, rfl⟩ | ⟨rfl, rfl⟩ | ⟨rfl, rfl⟩ | ⟨rfl, rfl⟩ <;> rfl
theorem BH.pos {bits half : Int} (h : BH bits half) : 8 ≤ half ∧ half ≤ 64 := by
  rcases h.r with ⟨_, rfl⟩ | ⟨_, rfl⟩ | ⟨_, rfl⟩ | ⟨_, rfl⟩ <;> decide
theorem BH.of (v : Int) : ∃ half, BH (4 + v % 4) half := by
  have : 4 + v % 4 = 4 ∨ 4 + v % 4 = 5 ∨ 4 + v % 4 = 6 ∨ 4 + v % 4 = 7 := by omega
  rcases this with e | e | e | e <;> rw [e]
  · exact ⟨8, ⟨by simp⟩⟩
  · exact ⟨16, ⟨by simp⟩⟩
  · exact ⟨32, ⟨by simp⟩⟩
  · exact ⟨64, ⟨by simp⟩⟩
theorem window_some {bits half : Int} (h : BH bits half) : m_window bits = some half := by
  unfold m_window
  rw [h.sz, bsome, show 2 * half / 2 = half by omega]
theorem base_some {P : Int → List Int} {K : Int → Prop} {d : List (Int × (List Int))} (D : Dct P K d) (bits fol : Int) (hk : ∀ k, K k → k < fol) : ∃ b, m_UpperSender_base (bits, fol, d) = some b ∧ b ≤ fol ∧ (∀ k, K k → b ≤ k) ∧ ((∀ k, ¬ K k) → b = fol) ∧ (b = fol ∨ K b) := by
  unfold m_UpperSender_base
  dsimp only
  by_cases q : d = []
  · subst q
    rw [if_pos (by rfl)]
    have no : ∀ k, ¬ K k := fun k h => by have := D.mem.mpr h; simp [dKeys] at this
    exact ⟨fol, rfl, Int.le_refl _, fun k h => absurd h (no k), fun _ => rfl, .inl rfl⟩
  · rw [if_neg (by
      cases d with
      | nil => exact absurd rfl q
      | cons a d => simp)]
    cases e : dKeys d with
    | nil =>
      cases d with
      | nil => exact absurd rfl q
      | cons a d => simp [dKeys] at e
    | cons x xs =>
      obtain ⟨m, em, m1, m2⟩ : ∃ m, minI (x :: xs) = some m ∧ m ∈ x :: xs ∧ ∀ y ∈ x :: xs, m ≤ y := minI_some x xs
      rw [em, bsome]
      rw [← e] at m1 m2
      have hm := D.mem.mp m1
      exact ⟨m, rfl, by have := hk m hm; omega, fun k h => m2 k (D.mem.mpr h), fun no => absurd hm (no m), .inr hm⟩
theorem unc_some {P : Int → List Int} {K : Int → Prop} {d : List (Int × (List Int))} (D : Dct P K d) (bits fol : Int) (hl : d.length < 64) : m_UpperSender_unconfirmed (bits, fol, d) = some ((srtI (dKeys d)).map fun c => (c, P c)) := by
  unfold m_UpperSender_unconfirmed
  dsimp only
  rw [guardO_some hl, bsome, D.srt (by omega), bsome]
theorem confirm_some {P : Int → List Int} {K : Int → Prop} {d : List (Int × (List Int))} (D : Dct P K d) (bits fol c : Int) : ∃ d', m_UpperSender_confirm (bits, fol, d) c = some (bits, fol, d') ∧ Dct P (fun k => K k ∧ k ≠ c) d' := by
  unfold m_UpperSender_confirm
  dsimp only
  by_cases q : dHas d c = true
  · rw [if_pos q, guardO_some q, bsome, bsome]
    exact ⟨_, rfl, D.del c⟩
  · rw [if_neg q, bsome]
    exact ⟨d, rfl, D.congr (fun _ _ => rfl) fun k => ⟨fun h => ⟨h, fun e => q (by rw [← e]; exact (D.has k).mpr h)⟩, fun h => h.1⟩⟩
theorem report_fold {P : Int → List Int} (bits fol first : Int) (later : List Int) : ∀ (ks : List Int) (K : Int → Prop) (d : List (Int × (List Int))), Dct P K d →
    ∃ d', List.foldlM (fun (s_26 : (Int × Int × (List (Int × (List Int))))) (count_27 : Int) =>
  (Option.bind (if ((decide (count_27 < first)) || (decide (count_27 ∈ later))) = true then
  (Option.bind (m_UpperSender_confirm s_26 count_27) fun v_30 =>
  (some v_30)) else
  (some s_26)) fun s_29 =>
  (some s_29))) (bits, fol, d) ks = some (bits, fol, d') ∧ Dct P (fun k => K k ∧ ¬ (k ∈ ks ∧ (k < first ∨ k ∈ later))) d'
  | [], K, d, D => ⟨d, rfl, D.congr (fun _ _ => rfl) fun k => by simp⟩
  | c :: ks, K, d, D => by
    rw [List.foldlM_cons]
    by_cases q : c < first ∨ c ∈ later
    · obtain ⟨d1, e1, D1⟩ := confirm_some D bits fol c
      obtain ⟨d2, e2, D2⟩ := report_fold bits fol first later ks _ d1 D1
      refine ⟨d2, ?_, D2.congr (fun _ _ => rfl) fun k => ?_⟩
      · rw [if_pos (by simpa using q), e1]
        exact e2
      · constructor
        · rintro ⟨⟨h1, h2⟩, h3⟩
          refine ⟨h1, ?_⟩
          rintro ⟨h4, h5⟩
          rcases List.mem_cons.mp h4 with z | z
          · exact h2 z
          · exact h3 ⟨z, h5⟩
        · rintro ⟨h1, h2⟩
          refine ⟨⟨h1, ?_⟩, ?_⟩
          · rintro rfl
            exact h2 ⟨by simp, q⟩
          · rintro ⟨h3, h4⟩
            exact h2 ⟨by simp [h3], h4⟩
    · obtain ⟨d2, e2, D2⟩ := report_fold bits fol first later ks K d D
      refine ⟨d2, ?_, D2.congr (fun _ _ => rfl) fun k => ?_⟩
      · rw [if_neg (by simpa using q)]
        exact e2
      · constructor
        · rintro ⟨h1, h3⟩
          refine ⟨h1, ?_⟩
          rintro ⟨h4, h5⟩
          rcases List.mem_cons.mp h4 with z | z
          · subst z; exact q h5
          · exact h3 ⟨z, h5⟩
        · rintro ⟨h1, h2⟩
          exact ⟨h1, fun h3 => h2 ⟨by simp [h3.1], h3.2⟩⟩
theorem report_some {P : Int → List Int} {K : Int → Prop} {d : List (Int × (List Int))} (D : Dct P K d) (bits fol first : Int) (later : List Int) : ∃ d', m_UpperSender_take_report (bits, fol, d) first later = some (bits, fol, d') ∧ Dct P (fun k => K k ∧ ¬ (k < first ∨ k ∈ later)) d' := by
  obtain ⟨d', e, D'⟩ := report_fold bits fol first later (dKeys d) K d D
  refine ⟨d', ?_, D'.congr (fun _ _ => rfl) fun k => ⟨fun h => ⟨h.1, fun z => h.2 ⟨D.mem.mpr h.1, z⟩⟩, fun h => ⟨h.1, fun z => h.2 z.2⟩⟩⟩
  unfold m_UpperSender_take_report
  dsimp only
  rw [e, bsome]
def PP (put : List (List Int)) (k : Int) : List Int := put.getD k.toNat []
theorem PP_app {put : List (List Int)} {p : List Int} {k : Int} (h0 : 0 ≤ k) (h : k < put.length) : PP (put ++ [p]) k = PP put k := by
  unfold PP
  rw [List.getD_eq_getElem?_getD, List.getD_eq_getElem?_getD, List.getElem?_append_left (by omega)]
theorem PP_new {put : List (List Int)} {p : List Int} : p = PP (put ++ [p]) put.length := by simp [PP]

theorem bwin_some {bits half : Int} (h : BH bits half) : m_l_window bits = some half := by
  rcases h.r with ⟨rfl, rfl⟩ | ⟨rfl, rfl⟩ | ⟨rfl, rfl⟩ | ⟨rfl, rfl⟩ <;> rfl
theorem bytes_some (c n : Int) (h0 : 0 ≤ n) (h1 : n < 100) : ∃ p, m_l_bytes c n = some p ∧ p.length ≤ 100 := by
  unfold m_l_bytes
  obtain ⟨ds, hd, fd⟩ := digits_some c [3, 256, 256, 7] (by simp) (by simp)
  rw [hd, bsome]
  cases fd with | cons r0 fd => cases fd with | cons r1 fd => cases fd with | cons r2 fd => cases fd with | cons r3 fd =>
  cases fd
  rename_i d0 d1 d2 d3
  rw [show atI [d0, d1, d2, d3] 0 = some d0 from rfl, show atI [d0, d1, d2, d3] 1 = some d1 from rfl, show atI [d0, d1, d2, d3] 2 = some d2 from rfl, show atI [d0, d1, d2, d3] 3 = some d3 from rfl, bsome]
  by_cases q : d0 = 0
  · rw [if_pos (decide_eq_true q), guardO_some ⟨by omega, by omega⟩, bsome, mapO_some (f := fun _ => (some d1).bind fun x => some x) (g := fun _ => d1) (by rw [rangeI_len]; omega) (fun k _ => rfl), bsome]
    exact ⟨_, rfl, by rw [List.length_map, rangeI_len]; omega⟩
  · rw [if_neg (by simpa using q), guardO_some ⟨by omega, by omega⟩, bsome, mapO_some (g := fun k => (d1 + (2 * d3 + 1) * k * k + d2 * k) % 256) (by rw [rangeI_len]; omega) (fun k hk => by
      have := mem_rangeI.mp hk
      rw [bsome, bsome, mulM_some (.inr ⟨by omega, by omega⟩), bsome, mulM_some (.inr ⟨by omega, by omega⟩), bsome, bsome, mulM_some (.inr ⟨by omega, by omega⟩), bsome]), bsome]
    exact ⟨_, rfl, by rw [List.length_map, rangeI_len]; omega⟩
theorem many_some (ns : List Int) : ∃ v, m_l_many ns 20 60 = some v ∧ 0 ≤ v ∧ v ≤ 60 := by
  unfold m_l_many
  by_cases q : (0 : Int) < (ns.length : Int)
  · obtain ⟨x, e, _⟩ := atI_lt (xs := ns) (Int.le_refl 0) q
    rw [if_pos (decide_eq_true q), e, bsome, bsome]
    by_cases q2 : decide (x / 1009 % 5 = 1) = true
    · rw [if_pos q2]; exact ⟨60, rfl, by decide, by decide⟩
    · rw [if_neg q2]; exact ⟨20, rfl, by decide, by decide⟩
  · rw [if_neg (by simpa using q), bsome, if_neg (by decide)]
    exact ⟨20, rfl, by decide, by decide⟩
section
variable {P : Int → List Int} {K : Int → Prop} {d e : List (Int × (List Int))}
theorem srt_nd (D : Dct P K d) : (srtI (dKeys d)).Nodup := ((srtI_perm _).nodup_iff).mpr D.nd
theorem srt_same (D : Dct P K d) (E : Dct P K e) : srtI (dKeys d) = srtI (dKeys e) := D.unique (srt_nd E) (srtI_sorted _) fun k => E.smem
def bs (l : List Int) (fol : Int) : Int := l.headD fol
theorem min_bs (D : Dct P K d) {fol : Int} (hk : ∀ k, K k → k < fol) : minI ([fol] ++ srtI (dKeys d)) = some (bs (srtI (dKeys d)) fol) := by
  obtain ⟨m, em, m1, m2⟩ := minI_some fol (srtI (dKeys d))
  show minI (fol :: srtI (dKeys d)) = _
  rw [em]
  congr 1
  have hs := srtI_sorted (dKeys d)
  cases q : srtI (dKeys d) with
  | nil =>
    rw [q] at m1
    show m = fol
    simpa using m1
  | cons x xs =>
    show m = x
    rw [q] at m1 m2 hs
    have hx : x < fol := hk x (D.smem.mp (by rw [q]; simp))
    have h1 := m2 x (by simp)
    rcases List.mem_cons.mp m1 with z | z
    · omega
    · rcases List.mem_cons.mp z with z | z
      · exact z
      · have := (List.pairwise_cons.mp hs).1 m z
        omega
theorem base_bs (D : Dct P K d) (bits : Int) {fol : Int} (hk : ∀ k, K k → k < fol) : m_UpperSender_base (bits, fol, d) = some (bs (srtI (dKeys d)) fol) := by
  obtain ⟨b, e, b1, b2, b3, b4⟩ := base_some D bits fol hk
  rw [e]
  congr 1
  have hs := srtI_sorted (dKeys d)
  cases q : srtI (dKeys d) with
  | nil =>
    show b = fol
    exact b3 fun k h => by have := D.smem.mpr h; rw [q] at this; cases this
  | cons x xs =>
    show b = x
    rw [q] at hs
    have hx : K x := D.smem.mp (by rw [q]; simp)
    have h1 := b2 x hx
    rcases b4 with z | z
    · have := hk x hx; omega
    · have := D.smem.mpr z
      rw [q] at this
      rcases List.mem_cons.mp this with y | y
      · exact y
      · have := (List.pairwise_cons.mp hs).1 b y
        omega
theorem may_bs {bits half fol : Int} (hb : BH bits half) (D : Dct P K d) (hk : ∀ k, K k → k < fol) : m_UpperSender_may_add (bits, fol, d) = some (decide (fol - bs (srtI (dKeys d)) fol < half)) := by
  unfold m_UpperSender_may_add
  rw [base_bs D bits hk, bsome, window_some hb, bsome]
theorem same_some {bits half fol : Int} (hb : BH bits half) (D : Dct P K d) (E : Dct P K e) (hk : ∀ k, K k → k < fol) (h1 : d.length < 64) (h2 : e.length < 64) (hp : ∀ k, (P k).length < 1000) : m_l_same (bits, fol, d) e fol bits = some true := by
  unfold m_l_same
  rw [guardO_some h2, bsome, E.srt (by omega), bsome, unc_some D bits fol h1, bsome, srt_same D E, may_bs hb D hk, base_bs D bits hk, srt_same D E, bwin_some hb]
  have e1 : (if (!decide ((srtI (dKeys e)).map (fun c => (c, P c)) = [])) = true then Option.bind (atI ((srtI (dKeys e)).map fun c => (c, P c)) 0) fun x => some x.1 else some fol) = some (bs (srtI (dKeys e)) fol) := by
    cases srtI (dKeys e) with
    | nil => rfl
    | cons x xs =>
      rw [if_pos (by simp), show atI ((x :: xs).map fun c => (c, P c)) 0 = some (x, P x) by rw [atI_nn (Int.le_refl 0)]; rfl]
      rfl
  have e2 : (if (!decide ((srtI (dKeys e)).map (fun c => (c, P c)) = [])) = true then Option.bind (atI ((srtI (dKeys e)).map fun c => (c, P c)) 0) fun x => Option.bind (guardO (List.length x.2 < 1000000)) fun g => some () else some ()) = some () := by
    cases srtI (dKeys e) with
    | nil => rfl
    | cons x xs =>
      rw [if_pos (by simp), show atI ((x :: xs).map fun c => (c, P c)) 0 = some (x, P x) by rw [atI_nn (Int.le_refl 0)]; rfl, bsome, guardO_some (by have := hp x; show (P x).length < 1000000; omega), bsome]
  unfold m_UpperSender_next_count
  rw [if_neg (by simp), e1, bsome, bsome, bsome, if_neg (by simp), bsome]
  unfold orO
  rw [show (some (!decide (bs (srtI (dKeys e)) fol = bs (srtI (dKeys e)) fol)) : Option Bool) = some false by simp]
  show (Option.bind (some false) _) = _
  rw [bsome, if_neg (by decide), e2, bsome, bsome, if_pos (by simp), bsome, bsome]
  simp
theorem dOf_fold : ∀ (ks : List Int) (K : Int → Prop) (acc : List (Int × List Int)), ks.Nodup → (∀ k ∈ ks, ¬ K k) → Dct P K acc → Dct P (fun k => K k ∨ k ∈ ks) ((ks.map fun k => (k, P k)).foldl (fun acc p => dPut acc p.1 p.2) acc)
  | [], K, acc, _, _, D => D.congr (fun _ _ => rfl) fun k => by simp
  | c :: ks, K, acc, nd, h, D => by
    obtain ⟨n1, n2⟩ := List.nodup_cons.mp nd
    have q := dOf_fold ks (fun k => K k ∨ k = c) (dPut acc c (P c)) n2 (fun k hk z => z.elim (h k (by simp [hk])) fun e => n1 (e ▸ hk)) (D.put (h c (by simp)) rfl)
    exact q.congr (fun _ _ => rfl) fun k => by simp [or_assoc]
theorem reported_some (D : Dct P K d) (hl : d.length ≤ 1000000) (first : Int) (later : List Int) : ∃ d', m_l_reported d first later = some d' ∧ Dct P (fun k => K k ∧ ¬ (k < first ∨ k ∈ later)) d' := by
  unfold m_l_reported
  rw [fltO_some (p := fun k => decide (first ≤ k) && !decide (k ∈ later)) (g := fun k => (k, P k)) (by unfold dKeys; rw [List.length_map]; exact hl) (fun k _ => rfl) (fun k hk _ => by rw [D.get (D.mem.mp hk), bsome]), bsome]
  refine ⟨_, rfl, ?_⟩
  have q := dOf_fold (P := P) ((dKeys d).filter fun k => decide (first ≤ k) && !decide (k ∈ later)) (fun _ => False) [] (D.nd.filter _) (fun _ _ h => h) Dct.empty
  refine q.congr (fun _ _ => rfl) fun k => ?_
  rw [List.mem_filter, D.mem]
  simp
end
structure LI (bits : Int) (n : Nat) (s : (Int × Int × (List (Int × (List Int)))) × (List (Int × (List Int))) × Int) (put : List (List Int)) (K : Int → Prop) : Prop where
  b : s.1.1 = bits
  f : s.1.2.1 = put.length
  g : s.2.2 = put.length
  n : put.length ≤ n
  D : Dct (PP put) K s.1.2.2
  E : Dct (PP put) K s.2.1
  r : ∀ k, K k → 0 ≤ k ∧ k < put.length
  p : ∀ k, (PP put k).length < 1000
theorem pp_len {put : List (List Int)} {p : List Int} (h : ∀ k, (PP put k).length < 1000) (hp : p.length < 1000) : ∀ k, (PP (put ++ [p]) k).length < 1000 := fun k => by
  have h0 := h k
  unfold PP at h0 ⊢
  rw [List.getD_eq_getElem?_getD] at h0 ⊢
  by_cases q : k.toNat < put.length
  · rw [List.getElem?_append_left q]; exact h0
  · rw [List.getElem?_append_right (by omega)]
    cases z : k.toNat - put.length with
    | zero => simpa using hp
    | succ m => simp
theorem law_true (ns : List Int) (h : ns.length ≤ 63) : m_law ns = some true := by
  unfold m_law m_UpperSender___init__
  obtain ⟨c0, hc0⟩ := cell_some ns 0 (by decide)
  obtain ⟨half, hb⟩ := BH.of c0
  obtain ⟨mv, hm, m0, m1⟩ := many_some ns
  have hp := hb.pos
  rw [hc0, bsome, lett_eq, bsome, hm, bsome, guardO_some (by omega), bsome]
  refine thenR_idx (fun n s => ∃ put K, LI (4 + c0 % 4) n s put K) ⟨[], fun _ => False, rfl, rfl, rfl, Nat.le_refl 0, Dct.empty, Dct.empty, fun k h => h.elim, fun k => by simp [PP]⟩ (fun n k s hk hs => ?_) (fun s hs => rfl)
  obtain ⟨put, K, L⟩ := hs
  obtain ⟨⟨b, f, d⟩, e, g⟩ := s
  obtain ⟨L1, L2, L3, L4, D, E, L7, L8⟩ := L
  dsimp only at L1 L2 L3 D E ⊢
  subst L1 L2 L3
  have hn : n < 60 := by
    have := (List.getElem?_eq_some_iff.mp hk).1
    rw [rangeI_len] at this
    omega
  have hk0 := mem_rangeI.mp (List.mem_of_getElem? hk)
  have hdl : d.length ≤ put.length := D.len (a := 0) fun k h => by have := L7 k h; omega
  have hel : e.length ≤ put.length := E.len (a := 0) fun k h => by have := L7 k h; omega
  obtain ⟨v, hv⟩ := cell_some ns k (by omega)
  obtain ⟨ds, hd, fd⟩ := digits_some (v + k) [6, 70, 5, 9] (by simp) (by simp)
  rw [hv, bsome, hd, bsome]
  cases fd with | cons r0 fd => cases fd with | cons r1 fd => cases fd with | cons r2 fd => cases fd with | cons r3 fd =>
  cases fd
  rename_i d0 d1 d2 d3
  rw [show atI [d0, d1, d2, d3] 0 = some d0 from rfl, show atI [d0, d1, d2, d3] 1 = some d1 from rfl, show atI [d0, d1, d2, d3] 2 = some d2 from rfl, show atI [d0, d1, d2, d3] 3 = some d3 from rfl, bsome]
  -- the turn's act gives a state of which the same holds
  have fin : ∀ (m : Option (Bool ⊕ ((Int × Int × (List (Int × (List Int)))) × (List (Int × (List Int))) × Int))) (s' : (Int × Int × (List (Int × (List Int)))) × (List (Int × (List Int))) × Int) (put' : List (List Int)) (K' : Int → Prop), m = some (.inr s') → LI (4 + c0 % 4) (n + 1) s' put' K' →
      ∃ s'', thenR m (fun s => Option.bind (m_l_same s.1 s.2.1 s.2.2 (4 + c0 % 4)) fun v => if (!v) = true then Option.map Sum.inl (some false) else some (Sum.inr (s.1, s.2.1, s.2.2))) Sum.inl = some (.inr s'') ∧ ∃ put K, LI (4 + c0 % 4) (n + 1) s'' put K := fun m s' put' K' hm L => by
    rw [thenR_r hm]
    obtain ⟨⟨b', f', d'⟩, e', g'⟩ := s'
    obtain ⟨M1, M2, M3, M4, D', E', M7, M8⟩ := L
    dsimp only at M1 M2 M3 D' E' ⊢
    subst M1 M2 M3
    have h1 : d'.length ≤ put'.length := D'.len (a := 0) fun k h => by have := M7 k h; omega
    have h2 : e'.length ≤ put'.length := E'.len (a := 0) fun k h => by have := M7 k h; omega
    rw [same_some hb D' E' (fun k h => (M7 k h).2) (by omega) (by omega) M8, bsome, if_neg (by decide)]
    exact ⟨_, rfl, put', K', rfl, rfl, rfl, M4, D', E', M7, M8⟩
  by_cases c1 : d0 < 4
  · rw [if_pos (decide_eq_true c1), guardO_some (by omega), bsome, guardO_some (by
      show [(put.length : Int)].length + (srtI (dKeys e)).length ≤ 1000000
      rw [Dct.slen]
      simp
      omega), bsome, min_bs E (fun k h => (L7 k h).2), bsome, bwin_some hb, bsome]
    by_cases c2 : half ≤ (put.length : Int) - bs (srtI (dKeys e)) put.length
    · rw [if_pos (decide_eq_true c2)]
      have er : m_l_refused (4 + c0 % 4, (put.length : Int), d) = some (true, (4 + c0 % 4, (put.length : Int), d)) := by
        unfold m_l_refused mz_UpperSender_add
        rw [may_bs hb D (fun k h => (L7 k h).2), srt_same D E, bsome, if_pos (by simp; omega)]
        rfl
      rw [er, bsome, if_neg (by simp)]
      exact fin _ ((4 + c0 % 4, (put.length : Int), d), e, (put.length : Int)) put K rfl ⟨rfl, rfl, rfl, by omega, D, E, L7, L8⟩
    · rw [if_neg (by simpa using c2), bsome, bsome]
      obtain ⟨p, ep, pl⟩ := bytes_some v d3 r3.1 (by omega)
      have ea : m_UpperSender_add (4 + c0 % 4, (put.length : Int), d) p = some ((put.length : Int), (4 + c0 % 4, (put.length : Int) + 1, dPut d put.length p), p) := by
        unfold m_UpperSender_add
        rw [may_bs hb D (fun k h => (L7 k h).2), srt_same D E, bsome, if_neg (by simp; omega), guardO_some (by show d.length < 1000000; omega), bsome, lett_eq]
      have no : ¬ K (put.length : Int) := fun h => by have := L7 _ h; omega
      have cg : ∀ {x : List (Int × List Int)}, Dct (PP put) K x → Dct (PP (put ++ [p])) (fun k => K k ∨ k = put.length) (dPut x put.length p) := fun {x} X =>
        (X.congr (fun k h => by have := L7 k h; rw [PP_app (by omega) (by omega)]) fun _ => Iff.rfl : Dct (PP (put ++ [p])) K x).put no PP_new
      rw [ep, bsome, ea, bsome, if_neg (by simp), guardO_some (by show p.length < 1000000; omega), bsome, guardO_some (by omega), bsome, lett_eq]
      refine fin _ ((4 + c0 % 4, (put.length : Int) + 1, dPut d put.length p), dPut e put.length p, (put.length : Int) + 1) (put ++ [p]) (fun k => K k ∨ k = put.length) rfl ⟨rfl, by simp, by simp, by simp; omega, cg D, cg E, fun k h => ?_, pp_len L8 (by omega)⟩
      simp only [List.length_append, List.length_cons, List.length_nil]
      rcases h with h | h
      · have := L7 k h; omega
      · omega
  · rw [if_neg (by simpa using c1), bsome]
    by_cases c2 : d0 = 4
    · rw [if_pos (decide_eq_true c2), bsome, bsome, lett_eq]
      obtain ⟨d', e1, D'⟩ := confirm_some D (4 + c0 % 4) put.length (((put.length : Int) - 1) - (d1 % 20) + (d2 % 2))
      obtain ⟨e', e2, E'⟩ := reported_some E (by omega) 0 [((put.length : Int) - 1) - (d1 % 20) + (d2 % 2)]
      rw [e1, bsome, e2, bsome, bsome]
      refine fin _ ((4 + c0 % 4, (put.length : Int), d'), e', (put.length : Int)) put _ rfl ⟨rfl, rfl, rfl, by omega, D', E'.congr (fun _ _ => rfl) fun k => ?_, fun k h => L7 k h.1, L8⟩
      constructor
      · rintro ⟨a, z⟩
        exact ⟨a, fun q => z (.inr (by simp [q]))⟩
      · rintro ⟨a, z⟩
        refine ⟨a, ?_⟩
        rintro (q | q)
        · have := L7 k a; omega
        · exact z (by simpa using q)
    · rw [if_neg (by simpa using c2), bsome, lett_eq, bsome, guardO_some ⟨by omega, by omega⟩, bsome, mapO_some (g := fun m => max 0 ((put.length : Int) - d1) + 1 + m * (1 + d2)) (by rw [rangeI_len]; omega) (fun m hm => by rw [bsome, mulM_some (.inr ⟨by omega, by omega⟩), bsome]), bsome]
      obtain ⟨d', e1, D'⟩ := report_some D (4 + c0 % 4) put.length (max 0 ((put.length : Int) - d1)) ((rangeI 0 d3.toNat).map fun m => max 0 ((put.length : Int) - d1) + 1 + m * (1 + d2))
      obtain ⟨e', e2, E'⟩ := reported_some E (by omega) (max 0 ((put.length : Int) - d1)) ((rangeI 0 d3.toNat).map fun m => max 0 ((put.length : Int) - d1) + 1 + m * (1 + d2))
      rw [e1, bsome, e2, bsome, bsome]
      exact fin _ ((4 + c0 % 4, (put.length : Int), d'), e', (put.length : Int)) put _ rfl ⟨rfl, rfl, rfl, by omega, D', E', fun k h => L7 k h.1, L8⟩

theorem all_mk {l : PySem.W.OpenLaw} {w : World} {K : PySem.W.Frag} {h : Heap} {mg : Str → Option Value} {fa f0 f1 f2 f3 f4 f5 f6 f7 f8 f9 f10 f11 f12 f13 f14 f15 f16 f17 : Addr} (X : K.In h) (G : h.Ns mainGlobals mg) (hfa : mg "law" = some (.ref fa))
    {od0 an0 : Option Addr} {sl0 : Array (Option Value)} {oc0 kV0 dc0 pm0 cd0 ct0 : Value} {od1 an1 : Option Addr} {sl1 : Array (Option Value)} {oc1 kV1 dc1 pm1 cd1 ct1 : Value} {od2 an2 : Option Addr} {sl2 : Array (Option Value)} {oc2 kV2 dc2 pm2 cd2 ct2 : Value} {od3 an3 : Option Addr} {sl3 : Array (Option Value)} {oc3 kV3 dc3 pm3 cd3 ct3 : Value} {od4 an4 : Option Addr} {sl4 : Array (Option Value)} {oc4 kV4 dc4 pm4 cd4 ct4 : Value} {od5 an5 : Option Addr} {sl5 : Array (Option Value)} {oc5 kV5 dc5 pm5 cd5 ct5 : Value} {od6 an6 : Option Addr} {sl6 : Array (Option Value)} {oc6 kV6 dc6 pm6 cd6 ct6 : Value} {od7 an7 : Option Addr} {sl7 : Array (Option Value)} {oc7 kV7 dc7 pm7 cd7 ct7 : Value} {od8 an8 : Option Addr} {sl8 : Array (Option Value)} {oc8 kV8 dc8 pm8 cd8 ct8 : Value} {od9 an9 : Option Addr} {sl9 : Array (Option Value)} {oc9 kV9 dc9 pm9 cd9 ct9 : Value} {od10 an10 : Option Addr} {sl10 : Array (Option Value)} {oc10 kV10 dc10 pm10 cd10 ct10 : Value} {od11 an11 : Option Addr} {sl11 : Array (Option Value)} {oc11 kV11 dc11 pm11 cd11 ct11 : Value} {od12 an12 : Option Addr} {sl12 : Array (Option Value)} {oc12 kV12 dc12 pm12 cd12 ct12 : Value} {od13 an13 : Option Addr} {sl13 : Array (Option Value)} {oc13 kV13 dc13 pm13 cd13 ct13 : Value} {od14 an14 : Option Addr} {sl14 : Array (Option Value)} {oc14 kV14 dc14 pm14 cd14 ct14 : Value} {od15 an15 : Option Addr} {sl15 : Array (Option Value)} {oc15 kV15 dc15 pm15 cd15 ct15 : Value} {od16 an16 : Option Addr} {sl16 : Array (Option Value)} {oc16 kV16 dc16 pm16 cd16 ct16 : Value} {od17 an17 : Option Addr} {sl17 : Array (Option Value)} {oc17 kV17 dc17 pm17 cd17 ct17 : Value}
    {cl_BearerError : Addr} (aC_BearerError : PySem.W.nsIn K mainGlobals "BearerError" = some (some (.ref cl_BearerError))) (xq_BearerError : PySem.W.excIn K cl_BearerError [.type "ValueError", .type "Exception", .type "BaseException", .type "object"] "ValueError.__new__" = true) (kc_BearerError : PySem.W.keepIn K (.ref cl_BearerError) = true) (xb_BearerError : PySem.W.subIn K (.ref cl_BearerError) (.type "BaseException") = some true) (xt_BearerError : PySem.W.typeIn K (.ref cl_BearerError) = some (.type "type"))
    (xg_BearerError : PySem.W.findIn K (.ref cl_BearerError) "__getattribute__" = some (some (.builtin "BaseException.__getattribute__"))) (xh_BearerError : PySem.W.findIn K (.ref cl_BearerError) "__getattr__" = some none) (xd_BearerError : PySem.W.hasDictIn K cl_BearerError = true) (xa_BearerError : PySem.W.findIn K (.ref cl_BearerError) "__class__" = some (some (.builtin "object.__class__"))) (xn_BearerError : PySem.W.specialIn K (.builtin "object.__class__") "__get__" = some (some (.builtin "getset_descriptor.__get__"))) (xz_BearerError : PySem.W.takesIn K (.builtin "object.__class__") = some true) (xo_BearerError : PySem.W.mroIn K cl_BearerError (.type "object") = some true)
    {cl_NotValid : Addr} (aC_NotValid : PySem.W.nsIn K mainGlobals "NotValid" = some (some (.ref cl_NotValid))) (xq_NotValid : PySem.W.excIn K cl_NotValid [.type "ValueError", .type "Exception", .type "BaseException", .type "object"] "ValueError.__new__" = true) (kc_NotValid : PySem.W.keepIn K (.ref cl_NotValid) = true) (xb_NotValid : PySem.W.subIn K (.ref cl_NotValid) (.type "BaseException") = some true) (xt_NotValid : PySem.W.typeIn K (.ref cl_NotValid) = some (.type "type"))
    (xg_NotValid : PySem.W.findIn K (.ref cl_NotValid) "__getattribute__" = some (some (.builtin "BaseException.__getattribute__"))) (xh_NotValid : PySem.W.findIn K (.ref cl_NotValid) "__getattr__" = some none) (xd_NotValid : PySem.W.hasDictIn K cl_NotValid = true) (xa_NotValid : PySem.W.findIn K (.ref cl_NotValid) "__class__" = some (some (.builtin "object.__class__"))) (xn_NotValid : PySem.W.specialIn K (.builtin "object.__class__") "__get__" = some (some (.builtin "getset_descriptor.__get__"))) (xz_NotValid : PySem.W.takesIn K (.builtin "object.__class__") = some true) (xo_NotValid : PySem.W.mroIn K cl_NotValid (.type "object") = some true)
    (xs_NotValid_BearerError : PySem.W.subIn K (.ref cl_NotValid) (.ref cl_BearerError) = some true)
    (xs_NotValid_NotValid : PySem.W.subIn K (.ref cl_NotValid) (.ref cl_NotValid) = some true)
    {cl_UpperSender : Addr} (aC_UpperSender : PySem.W.nsIn K mainGlobals "UpperSender" = some (some (.ref cl_UpperSender))) (pg_UpperSender : PySem.W.plainGet K cl_UpperSender Str.empty = true) (hd_UpperSender : PySem.W.hasDictIn K cl_UpperSender = true) (po_UpperSender : PySem.W.plainOver K cl_UpperSender = true) (sa_UpperSender : PySem.W.findIn K (.ref cl_UpperSender) "__setattr__" = some (some (.builtin "object.__setattr__"))) (mk_UpperSender : PySem.W.makesIn K cl_UpperSender = true) (kc_UpperSender : PySem.W.keepIn K (.ref cl_UpperSender) = true)
    (na_UpperSender_bits : PySem.W.findIn K (.ref cl_UpperSender) "bits" = some none)
    (na_UpperSender_following : PySem.W.findIn K (.ref cl_UpperSender) "following" = some none)
    (na_UpperSender_packets : PySem.W.findIn K (.ref cl_UpperSender) "packets" = some none)
    (a0 : PySem.W.nsIn K mainGlobals "window" = some (some (.ref f0))) (l0 : K.lookup f0 = some ⟨oc0, od0, .func (PySem.W.fnOf "window" "window" (defArgs s_window) (defBody s_window) (defScope s_window) .none kV0 dc0 pm0 an0 cd0 ct0), sl0⟩) (c0 : PySem.W.codeIn K cd0 "window" = true) (k0 : PySem.W.keepIn K (.ref f0) = true)
    (a1 : PySem.W.findIn K (.ref cl_UpperSender) "__init__" = some (some (.ref f1))) (i1 : PySem.W.isFn K (.ref f1) = true) (l1 : K.lookup f1 = some ⟨oc1, od1, .func (PySem.W.fnOf "__init__" "UpperSender.__init__" (defArgs s_UpperSender___init__) (defBody s_UpperSender___init__) (defScope s_UpperSender___init__) .none kV1 dc1 pm1 an1 cd1 ct1), sl1⟩) (c1 : PySem.W.codeIn K cd1 "UpperSender.__init__" = true) (k1 : PySem.W.keepIn K (.ref f1) = true)
    (a2 : PySem.W.findIn K (.ref cl_UpperSender) "next_count" = some (some (.ref f2))) (i2 : PySem.W.isFn K (.ref f2) = true) (l2 : K.lookup f2 = some ⟨oc2, od2, .func (PySem.W.fnOf "next_count" "UpperSender.next_count" (defArgs s_UpperSender_next_count) (defBody s_UpperSender_next_count) (defScope s_UpperSender_next_count) .none kV2 dc2 pm2 an2 cd2 ct2), sl2⟩) (c2 : PySem.W.codeIn K cd2 "UpperSender.next_count" = true) (k2 : PySem.W.keepIn K (.ref f2) = true)
    (a3 : PySem.W.findIn K (.ref cl_UpperSender) "base" = some (some (.ref f3))) (i3 : PySem.W.isFn K (.ref f3) = true) (l3 : K.lookup f3 = some ⟨oc3, od3, .func (PySem.W.fnOf "base" "UpperSender.base" (defArgs s_UpperSender_base) (defBody s_UpperSender_base) (defScope s_UpperSender_base) .none kV3 dc3 pm3 an3 cd3 ct3), sl3⟩) (c3 : PySem.W.codeIn K cd3 "UpperSender.base" = true) (k3 : PySem.W.keepIn K (.ref f3) = true)
    (a4 : PySem.W.findIn K (.ref cl_UpperSender) "may_add" = some (some (.ref f4))) (i4 : PySem.W.isFn K (.ref f4) = true) (l4 : K.lookup f4 = some ⟨oc4, od4, .func (PySem.W.fnOf "may_add" "UpperSender.may_add" (defArgs s_UpperSender_may_add) (defBody s_UpperSender_may_add) (defScope s_UpperSender_may_add) .none kV4 dc4 pm4 an4 cd4 ct4), sl4⟩) (c4 : PySem.W.codeIn K cd4 "UpperSender.may_add" = true) (k4 : PySem.W.keepIn K (.ref f4) = true)
    (a5 : PySem.W.findIn K (.ref cl_UpperSender) "add" = some (some (.ref f5))) (i5 : PySem.W.isFn K (.ref f5) = true) (l5 : K.lookup f5 = some ⟨oc5, od5, .func (PySem.W.fnOf "add" "UpperSender.add" (defArgs s_UpperSender_add) (defBody s_UpperSender_add) (defScope s_UpperSender_add) .none kV5 dc5 pm5 an5 cd5 ct5), sl5⟩) (c5 : PySem.W.codeIn K cd5 "UpperSender.add" = true) (k5 : PySem.W.keepIn K (.ref f5) = true)
    (a6 : PySem.W.findIn K (.ref cl_UpperSender) "unconfirmed" = some (some (.ref f6))) (i6 : PySem.W.isFn K (.ref f6) = true) (l6 : K.lookup f6 = some ⟨oc6, od6, .func (PySem.W.fnOf "unconfirmed" "UpperSender.unconfirmed" (defArgs s_UpperSender_unconfirmed) (defBody s_UpperSender_unconfirmed) (defScope s_UpperSender_unconfirmed) .none kV6 dc6 pm6 an6 cd6 ct6), sl6⟩) (c6 : PySem.W.codeIn K cd6 "UpperSender.unconfirmed" = true) (k6 : PySem.W.keepIn K (.ref f6) = true)
    (a7 : PySem.W.findIn K (.ref cl_UpperSender) "confirm" = some (some (.ref f7))) (i7 : PySem.W.isFn K (.ref f7) = true) (l7 : K.lookup f7 = some ⟨oc7, od7, .func (PySem.W.fnOf "confirm" "UpperSender.confirm" (defArgs s_UpperSender_confirm) (defBody s_UpperSender_confirm) (defScope s_UpperSender_confirm) .none kV7 dc7 pm7 an7 cd7 ct7), sl7⟩) (c7 : PySem.W.codeIn K cd7 "UpperSender.confirm" = true) (k7 : PySem.W.keepIn K (.ref f7) = true)
    (a8 : PySem.W.findIn K (.ref cl_UpperSender) "take_report" = some (some (.ref f8))) (i8 : PySem.W.isFn K (.ref f8) = true) (l8 : K.lookup f8 = some ⟨oc8, od8, .func (PySem.W.fnOf "take_report" "UpperSender.take_report" (defArgs s_UpperSender_take_report) (defBody s_UpperSender_take_report) (defScope s_UpperSender_take_report) .none kV8 dc8 pm8 an8 cd8 ct8), sl8⟩) (c8 : PySem.W.codeIn K cd8 "UpperSender.take_report" = true) (k8 : PySem.W.keepIn K (.ref f8) = true)
    (a9 : PySem.W.nsIn K mainGlobals "_law_cell" = some (some (.ref f9))) (l9 : K.lookup f9 = some ⟨oc9, od9, .func (PySem.W.fnOf "_law_cell" "_law_cell" (defArgs s_l_cell) (defBody s_l_cell) (defScope s_l_cell) .none kV9 dc9 pm9 an9 cd9 ct9), sl9⟩) (c9 : PySem.W.codeIn K cd9 "_law_cell" = true) (k9 : PySem.W.keepIn K (.ref f9) = true)
    (a10 : PySem.W.nsIn K mainGlobals "_law_digits" = some (some (.ref f10))) (l10 : K.lookup f10 = some ⟨oc10, od10, .func (PySem.W.fnOf "_law_digits" "_law_digits" (defArgs s_l_digits) (defBody s_l_digits) (defScope s_l_digits) .none kV10 dc10 pm10 an10 cd10 ct10), sl10⟩) (c10 : PySem.W.codeIn K cd10 "_law_digits" = true) (k10 : PySem.W.keepIn K (.ref f10) = true)
    (a11 : PySem.W.nsIn K mainGlobals "_law_many" = some (some (.ref f11))) (l11 : K.lookup f11 = some ⟨oc11, od11, .func (PySem.W.fnOf "_law_many" "_law_many" (defArgs s_l_many) (defBody s_l_many) (defScope s_l_many) .none kV11 dc11 pm11 an11 cd11 ct11), sl11⟩) (c11 : PySem.W.codeIn K cd11 "_law_many" = true) (k11 : PySem.W.keepIn K (.ref f11) = true)
    (a12 : PySem.W.nsIn K mainGlobals "_law_bytes" = some (some (.ref f12))) (l12 : K.lookup f12 = some ⟨oc12, od12, .func (PySem.W.fnOf "_law_bytes" "_law_bytes" (defArgs s_l_bytes) (defBody s_l_bytes) (defScope s_l_bytes) .none kV12 dc12 pm12 an12 cd12 ct12), sl12⟩) (c12 : PySem.W.codeIn K cd12 "_law_bytes" = true) (k12 : PySem.W.keepIn K (.ref f12) = true)
    (a13 : PySem.W.nsIn K mainGlobals "_law_window" = some (some (.ref f13))) (l13 : K.lookup f13 = some ⟨oc13, od13, .func (PySem.W.fnOf "_law_window" "_law_window" (defArgs s_l_window) (defBody s_l_window) (defScope s_l_window) .none kV13 dc13 pm13 an13 cd13 ct13), sl13⟩) (c13 : PySem.W.codeIn K cd13 "_law_window" = true) (k13 : PySem.W.keepIn K (.ref f13) = true)
    (a14 : PySem.W.nsIn K mainGlobals "_law_refused" = some (some (.ref f14))) (l14 : K.lookup f14 = some ⟨oc14, od14, .func (PySem.W.fnOf "_law_refused" "_law_refused" (defArgs s_l_refused) (defBody s_l_refused) (defScope s_l_refused) .none kV14 dc14 pm14 an14 cd14 ct14), sl14⟩) (c14 : PySem.W.codeIn K cd14 "_law_refused" = true) (k14 : PySem.W.keepIn K (.ref f14) = true)
    (a15 : PySem.W.nsIn K mainGlobals "_law_same" = some (some (.ref f15))) (l15 : K.lookup f15 = some ⟨oc15, od15, .func (PySem.W.fnOf "_law_same" "_law_same" (defArgs s_l_same) (defBody s_l_same) (defScope s_l_same) .none kV15 dc15 pm15 an15 cd15 ct15), sl15⟩) (c15 : PySem.W.codeIn K cd15 "_law_same" = true) (k15 : PySem.W.keepIn K (.ref f15) = true)
    (a16 : PySem.W.nsIn K mainGlobals "_law_reported" = some (some (.ref f16))) (l16 : K.lookup f16 = some ⟨oc16, od16, .func (PySem.W.fnOf "_law_reported" "_law_reported" (defArgs s_l_reported) (defBody s_l_reported) (defScope s_l_reported) .none kV16 dc16 pm16 an16 cd16 ct16), sl16⟩) (c16 : PySem.W.codeIn K cd16 "_law_reported" = true) (k16 : PySem.W.keepIn K (.ref f16) = true)
    (a17 : PySem.W.nsIn K mainGlobals "law" = some (some (.ref f17))) (l17 : K.lookup f17 = some ⟨oc17, od17, .func (PySem.W.fnOf "law" "law" (defArgs s_law) (defBody s_law) (defScope s_law) .none kV17 dc17 pm17 an17 cd17 ct17), sl17⟩) (c17 : PySem.W.codeIn K cd17 "law" = true) (k17 : PySem.W.keepIn K (.ref f17) = true)
    (z0 : PySem.W.nsIn K mainGlobals "bool" = some none)
    (z1 : PySem.W.nsIn K mainGlobals "dict" = some none)
    (z2 : PySem.W.nsIn K mainGlobals "int" = some none)
    (z3 : PySem.W.nsIn K mainGlobals "isinstance" = some none)
    (z4 : PySem.W.nsIn K mainGlobals "len" = some none)
    (z5 : PySem.W.nsIn K mainGlobals "list" = some none)
    (z6 : PySem.W.nsIn K mainGlobals "max" = some none)
    (z7 : PySem.W.nsIn K mainGlobals "min" = some none)
    (z8 : PySem.W.nsIn K mainGlobals "range" = some none)
    (z9 : PySem.W.nsIn K mainGlobals "sorted" = some none)
    {ta0 : Addr} {to0 : Option Addr} {ts0 : Array (Option Value)} {tn0 : Nat} {tt0_0 : Tok} {tt0_1 : Tok} {tt0_2 : Tok} {tt0_3 : Tok} {tt0_4 : Tok} {tt0_5 : Tok} {tt0_6 : Tok} {tt0_7 : Tok} (y0 : PySem.W.nsIn K mainGlobals "SIZES" = some (some (.ref ta0))) (yl0 : K.lookup ta0 = some ⟨.type "tuple", to0, .seq #[(.int 1 tt0_0), (.int 2 tt0_1), (.int 4 tt0_2), (.int 8 tt0_3), (.int 16 tt0_4), (.int 32 tt0_5), (.int 64 tt0_6), (.int 128 tt0_7)] tn0, ts0⟩)
    : ∃ fd : FuncData, (∀ (s : Shared) (v : Value), BindsTo s fd ⟨[v], []⟩ [("_law_script", v)]) ∧ ∀ base : Heap, K.In base → base.Ns mainGlobals mg → FnOk l.prog w K mg base CX0 5 fa fd ["_law_script"] (sp_law K 0 0 0) := by
  have e := hfa.symm.trans (PySem.W.mg_of X G a17)
  cases e
  have T_UpperSender : CF_UpperSender K cl_UpperSender := ⟨⟨pg_UpperSender, hd_UpperSender, po_UpperSender, sa_UpperSender⟩, na_UpperSender_bits, na_UpperSender_following, na_UpperSender_packets⟩
  have X_BearerError : ExK K mg "BearerError" cl_BearerError := ⟨PySem.W.mg_of X G aC_BearerError, xq_BearerError, kc_BearerError, xb_BearerError, xt_BearerError⟩
  have E_BearerError : ExcC K cl_BearerError := ⟨xg_BearerError, xh_BearerError, xb_BearerError, xd_BearerError, xa_BearerError, xn_BearerError, xz_BearerError, xo_BearerError⟩
  have X_NotValid : ExK K mg "NotValid" cl_NotValid := ⟨PySem.W.mg_of X G aC_NotValid, xq_NotValid, kc_NotValid, xb_NotValid, xt_NotValid⟩
  have E_NotValid : ExcC K cl_NotValid := ⟨xg_NotValid, xh_NotValid, xb_NotValid, xd_NotValid, xa_NotValid, xn_NotValid, xz_NotValid, xo_NotValid⟩
  have xm_NotValid_BearerError : PySem.W.exmOne K (.ref cl_NotValid) (.ref cl_BearerError) = some true := PySem.W.exm_ref xb_BearerError xd_BearerError xt_BearerError xs_NotValid_BearerError
  have xk_NotValid_NotValid : PySem.W.kitOne K (.ref cl_NotValid) (.ref cl_NotValid) = some true := kit_one xd_NotValid xt_NotValid xs_NotValid_NotValid xs_NotValid_NotValid
  have F0 := fun_mk (st := s_window) l0 c0 k0
  have F1 := fun_mk (st := s_UpperSender___init__) l1 c1 k1
  have F2 := fun_mk (st := s_UpperSender_next_count) l2 c2 k2
  have F3 := fun_mk (st := s_UpperSender_base) l3 c3 k3
  have F4 := fun_mk (st := s_UpperSender_may_add) l4 c4 k4
  have F5 := fun_mk (st := s_UpperSender_add) l5 c5 k5
  have F6 := fun_mk (st := s_UpperSender_unconfirmed) l6 c6 k6
  have F7 := fun_mk (st := s_UpperSender_confirm) l7 c7 k7
  have F8 := fun_mk (st := s_UpperSender_take_report) l8 c8 k8
  have F9 := fun_mk (st := s_l_cell) l9 c9 k9
  have F10 := fun_mk (st := s_l_digits) l10 c10 k10
  have F11 := fun_mk (st := s_l_many) l11 c11 k11
  have F12 := fun_mk (st := s_l_bytes) l12 c12 k12
  have F13 := fun_mk (st := s_l_window) l13 c13 k13
  have F14 := fun_mk (st := s_l_refused) l14 c14 k14
  have F15 := fun_mk (st := s_l_same) l15 c15 k15
  have F16 := fun_mk (st := s_l_reported) l16 c16 k16
  have F17 := fun_mk (st := s_law) l17 c17 k17
  have m_bool := PySem.W.mg_none_of X G z0
  have m_dict := PySem.W.mg_none_of X G z1
  have m_int := PySem.W.mg_none_of X G z2
  have m_isinstance := PySem.W.mg_none_of X G z3
  have m_len := PySem.W.mg_none_of X G z4
  have m_list := PySem.W.mg_none_of X G z5
  have m_max := PySem.W.mg_none_of X G z6
  have m_min := PySem.W.mg_none_of X G z7
  have m_range := PySem.W.mg_none_of X G z8
  have m_sorted := PySem.W.mg_none_of X G z9
  have g_SIZES : GTup K mg "SIZES" [1, 2, 4, 8, 16, 32, 64, 128] := GTup.mk' (PySem.W.mg_of X G y0) yl0 (Nat.le_of_ble_eq_true rfl) (.cons ⟨_, rfl⟩ (.cons ⟨_, rfl⟩ (.cons ⟨_, rfl⟩ (.cons ⟨_, rfl⟩ (.cons ⟨_, rfl⟩ (.cons ⟨_, rfl⟩ (.cons ⟨_, rfl⟩ (.cons ⟨_, rfl⟩ (.nil)))))))))
  refine ⟨PySem.W.fnOf "law" "law" (defArgs s_law) (defBody s_law) (defScope s_law) .none kV17 dc17 pm17 an17 cd17 ct17, fun s v => .of_eq rfl, fun base _ _ => ?_⟩
  have c_window : Cal l.prog w K mg base 1 "window" (sp_window K cl_UpperSender cl_BearerError cl_NotValid) := ⟨f0, _, _, ok_window F0 T_UpperSender X_BearerError E_BearerError X_NotValid E_NotValid xm_NotValid_BearerError xk_NotValid_NotValid g_SIZES, PySem.W.mg_of X G a0, k0, F0.binds (ps := ["bits"]) fun _ _ _ _ _ _ us hl => match us, hl with | [_], _ => rfl⟩
  have c_UpperSender___init__ : CalC l.prog w K mg base 1 cl_UpperSender "UpperSender" (sp_UpperSender___init__ K cl_UpperSender cl_BearerError cl_NotValid) := ⟨f1, _, _, ok_UpperSender___init__ F1 T_UpperSender X_BearerError E_BearerError X_NotValid E_NotValid xm_NotValid_BearerError xk_NotValid_NotValid, PySem.W.mg_of X G aC_UpperSender, ⟨mk_UpperSender, a1, i1, kc_UpperSender⟩, F1.binds (ps := ["self", "bits"]) fun _ _ _ _ _ _ us hl => match us, hl with | [_, _], _ => rfl⟩
  have c_UpperSender_next_count : CalM l.prog w K mg base 1 cl_UpperSender "next_count" (sp_UpperSender_next_count K cl_UpperSender cl_BearerError cl_NotValid) := ⟨f2, _, _, ok_UpperSender_next_count F2 T_UpperSender X_BearerError E_BearerError X_NotValid E_NotValid xm_NotValid_BearerError xk_NotValid_NotValid, ⟨a2, i2, k2⟩, F2.binds (ps := ["self"]) fun _ _ _ _ _ _ us hl => match us, hl with | [_], _ => rfl⟩
  have c_UpperSender_base : CalM l.prog w K mg base 1 cl_UpperSender "base" (sp_UpperSender_base K cl_UpperSender cl_BearerError cl_NotValid) := ⟨f3, _, _, ok_UpperSender_base F3 T_UpperSender X_BearerError E_BearerError X_NotValid E_NotValid xm_NotValid_BearerError xk_NotValid_NotValid m_min, ⟨a3, i3, k3⟩, F3.binds (ps := ["self"]) fun _ _ _ _ _ _ us hl => match us, hl with | [_], _ => rfl⟩
  have c_UpperSender_may_add : CalM l.prog w K mg base 2 cl_UpperSender "may_add" (sp_UpperSender_may_add K cl_UpperSender cl_BearerError cl_NotValid) := ⟨f4, _, _, ok_UpperSender_may_add F4 T_UpperSender X_BearerError E_BearerError X_NotValid E_NotValid xm_NotValid_BearerError xk_NotValid_NotValid c_UpperSender_base c_window, ⟨a4, i4, k4⟩, F4.binds (ps := ["self"]) fun _ _ _ _ _ _ us hl => match us, hl with | [_], _ => rfl⟩
  have c_UpperSender_add : CalM l.prog w K mg base 3 cl_UpperSender "add" (sp_UpperSender_add K cl_UpperSender cl_BearerError cl_NotValid) := ⟨f5, _, _, ok_UpperSender_add F5 T_UpperSender X_BearerError E_BearerError X_NotValid E_NotValid xm_NotValid_BearerError xk_NotValid_NotValid m_list c_UpperSender_may_add, ⟨a5, i5, k5⟩, F5.binds (ps := ["self", "packet"]) fun _ _ _ _ _ _ us hl => match us, hl with | [_, _], _ => rfl⟩
  have cz_UpperSender_add : CalMZ l.prog w K mg base 3 cl_UpperSender "add" (spz_UpperSender_add K cl_UpperSender cl_BearerError cl_NotValid) := ⟨f5, _, _, okz_UpperSender_add F5 T_UpperSender X_BearerError E_BearerError X_NotValid E_NotValid xm_NotValid_BearerError xk_NotValid_NotValid c_UpperSender_may_add, ⟨a5, i5, k5⟩, F5.binds (ps := ["self", "packet"]) fun _ _ _ _ _ _ us hl => match us, hl with | [_, _], _ => rfl⟩
  have c_UpperSender_unconfirmed : CalM l.prog w K mg base 1 cl_UpperSender "unconfirmed" (sp_UpperSender_unconfirmed K cl_UpperSender cl_BearerError cl_NotValid) := ⟨f6, _, _, ok_UpperSender_unconfirmed F6 T_UpperSender X_BearerError E_BearerError X_NotValid E_NotValid xm_NotValid_BearerError xk_NotValid_NotValid m_list m_sorted, ⟨a6, i6, k6⟩, F6.binds (ps := ["self"]) fun _ _ _ _ _ _ us hl => match us, hl with | [_], _ => rfl⟩
  have c_UpperSender_confirm : CalM l.prog w K mg base 1 cl_UpperSender "confirm" (sp_UpperSender_confirm K cl_UpperSender cl_BearerError cl_NotValid) := ⟨f7, _, _, ok_UpperSender_confirm F7 T_UpperSender X_BearerError E_BearerError X_NotValid E_NotValid xm_NotValid_BearerError xk_NotValid_NotValid, ⟨a7, i7, k7⟩, F7.binds (ps := ["self", "count"]) fun _ _ _ _ _ _ us hl => match us, hl with | [_, _], _ => rfl⟩
  have c_UpperSender_take_report : CalM l.prog w K mg base 2 cl_UpperSender "take_report" (sp_UpperSender_take_report K cl_UpperSender cl_BearerError cl_NotValid) := ⟨f8, _, _, ok_UpperSender_take_report F8 T_UpperSender X_BearerError E_BearerError X_NotValid E_NotValid xm_NotValid_BearerError xk_NotValid_NotValid m_list c_UpperSender_confirm, ⟨a8, i8, k8⟩, F8.binds (ps := ["self", "first", "later"]) fun _ _ _ _ _ _ us hl => match us, hl with | [_, _, _], _ => rfl⟩
  have c_l_cell : Cal l.prog w K mg base 1 "_law_cell" (sp_l_cell K cl_UpperSender cl_BearerError cl_NotValid) := ⟨f9, _, _, ok_l_cell F9 T_UpperSender X_BearerError E_BearerError X_NotValid E_NotValid xm_NotValid_BearerError xk_NotValid_NotValid m_int m_len, PySem.W.mg_of X G a9, k9, F9.binds (ps := ["_law_script", "_law_k"]) fun _ _ _ _ _ _ us hl => match us, hl with | [_, _], _ => rfl⟩
  have c_l_digits : Cal l.prog w K mg base 1 "_law_digits" (sp_l_digits K cl_UpperSender cl_BearerError cl_NotValid) := ⟨f10, _, _, ok_l_digits F10 T_UpperSender X_BearerError E_BearerError X_NotValid E_NotValid xm_NotValid_BearerError xk_NotValid_NotValid m_int m_len, PySem.W.mg_of X G a10, k10, F10.binds (ps := ["_law_cell_here", "_law_bases"]) fun _ _ _ _ _ _ us hl => match us, hl with | [_, _], _ => rfl⟩
  have c_l_many : Cal l.prog w K mg base 1 "_law_many" (sp_l_many K cl_UpperSender cl_BearerError cl_NotValid) := ⟨f11, _, _, ok_l_many F11 T_UpperSender X_BearerError E_BearerError X_NotValid E_NotValid xm_NotValid_BearerError xk_NotValid_NotValid m_int m_len, PySem.W.mg_of X G a11, k11, F11.binds (ps := ["_law_script", "_law_few", "_law_many_here"]) fun _ _ _ _ _ _ us hl => match us, hl with | [_, _, _], _ => rfl⟩
  have c_l_bytes : Cal l.prog w K mg base 2 "_law_bytes" (sp_l_bytes K cl_UpperSender cl_BearerError cl_NotValid) := ⟨f12, _, _, ok_l_bytes F12 T_UpperSender X_BearerError E_BearerError X_NotValid E_NotValid xm_NotValid_BearerError xk_NotValid_NotValid m_range c_l_digits, PySem.W.mg_of X G a12, k12, F12.binds (ps := ["_law_cell_here", "_law_size"]) fun _ _ _ _ _ _ us hl => match us, hl with | [_, _], _ => rfl⟩
  have c_l_window : Cal l.prog w K mg base 1 "_law_window" (sp_l_window K cl_UpperSender cl_BearerError cl_NotValid) := ⟨f13, _, _, ok_l_window F13 T_UpperSender X_BearerError E_BearerError X_NotValid E_NotValid xm_NotValid_BearerError xk_NotValid_NotValid, PySem.W.mg_of X G a13, k13, F13.binds (ps := ["_law_bits"]) fun _ _ _ _ _ _ us hl => match us, hl with | [_], _ => rfl⟩
  have c_l_refused : Cal l.prog w K mg base 4 "_law_refused" (sp_l_refused K cl_UpperSender cl_BearerError cl_NotValid) := ⟨f14, _, _, ok_l_refused F14 T_UpperSender X_BearerError E_BearerError X_NotValid E_NotValid xm_NotValid_BearerError xk_NotValid_NotValid m_isinstance c_UpperSender_add cz_UpperSender_add, PySem.W.mg_of X G a14, k14, F14.binds (ps := ["_law_sender"]) fun _ _ _ _ _ _ us hl => match us, hl with | [_], _ => rfl⟩
  have c_l_same : Cal l.prog w K mg base 3 "_law_same" (sp_l_same K cl_UpperSender cl_BearerError cl_NotValid) := ⟨f15, _, _, ok_l_same F15 T_UpperSender X_BearerError E_BearerError X_NotValid E_NotValid xm_NotValid_BearerError xk_NotValid_NotValid m_bool m_isinstance m_list m_sorted c_UpperSender_base c_UpperSender_may_add c_UpperSender_next_count c_UpperSender_unconfirmed c_l_window, PySem.W.mg_of X G a15, k15, F15.binds (ps := ["_law_sender", "_law_kept", "_law_following", "_law_bits"]) fun _ _ _ _ _ _ us hl => match us, hl with | [_, _, _, _], _ => rfl⟩
  have c_l_reported : Cal l.prog w K mg base 1 "_law_reported" (sp_l_reported K cl_UpperSender cl_BearerError cl_NotValid) := ⟨f16, _, _, ok_l_reported F16 T_UpperSender X_BearerError E_BearerError X_NotValid E_NotValid xm_NotValid_BearerError xk_NotValid_NotValid m_dict, PySem.W.mg_of X G a16, k16, F16.binds (ps := ["_law_kept", "_law_first", "_law_later"]) fun _ _ _ _ _ _ us hl => match us, hl with | [_, _, _], _ => rfl⟩
  have q_law := ok_law (P := l.prog) (w := w) (base := base) F17 T_UpperSender X_BearerError E_BearerError X_NotValid E_NotValid xm_NotValid_BearerError xk_NotValid_NotValid m_int m_len m_list m_max m_min m_range m_sorted c_UpperSender___init__ c_UpperSender_add c_UpperSender_confirm c_UpperSender_take_report c_l_bytes c_l_cell c_l_digits c_l_many c_l_refused c_l_reported c_l_same c_l_window
  exact q_law
end MyLaw
open PySem PySem.W PyProof.Rows
set_option maxHeartbeats 0 in
theorem PySem.Challenge.cw_bearerwise_k26_upper_sender_holds : PySem.Challenge.rw_bearerwise_k26_upper_sender.Holds := by
  w_on; o_law; k_head; (case hw => w_witness2)
  k_fill
  refine L2.walk_of (l := PySem.Challenge.rw_bearerwise_k26_upper_sender) (n := 63) (k := 5) (x := "_law_script") (CX := fun _ => L2.CX0) (sp := fun w => MyLaw.sp_law _ 0 0 0) rfl (by decide) rfl ⟨rfl, by decide, by decide⟩ (fun w h Y => PySem.W.kIn_of Y) ?F (fun w H a ns hl hO hS => Mr.law_sp hl hS (MyLaw.law_true ns hl)) (fun _ _ _ _ _ h => h)
  case F =>
    intro w mg fa h KX G hmg
    refine' MyLaw.all_mk KX G hmg ?aC_BearerError ?xq_BearerError ?kc_BearerError ?xb_BearerError ?xt_BearerError ?xg_BearerError ?xh_BearerError ?xd_BearerError ?xa_BearerError ?xn_BearerError ?xz_BearerError ?xo_BearerError ?aC_NotValid ?xq_NotValid ?kc_NotValid ?xb_NotValid ?xt_NotValid ?xg_NotValid ?xh_NotValid ?xd_NotValid ?xa_NotValid ?xn_NotValid ?xz_NotValid ?xo_NotValid ?xs_NotValid_BearerError ?xs_NotValid_NotValid ?aC_UpperSender ?pg_UpperSender ?hd_UpperSender ?po_UpperSender ?sa_UpperSender ?mk_UpperSender ?kc_UpperSender ?na_UpperSender_bits ?na_UpperSender_following ?na_UpperSender_packets ?a0 ?l0 ?c0 ?k0 ?a1 ?i1 ?l1 ?c1 ?k1 ?a2 ?i2 ?l2 ?c2 ?k2 ?a3 ?i3 ?l3 ?c3 ?k3 ?a4 ?i4 ?l4 ?c4 ?k4 ?a5 ?i5 ?l5 ?c5 ?k5 ?a6 ?i6 ?l6 ?c6 ?k6 ?a7 ?i7 ?l7 ?c7 ?k7 ?a8 ?i8 ?l8 ?c8 ?k8 ?a9 ?l9 ?c9 ?k9 ?a10 ?l10 ?c10 ?k10 ?a11 ?l11 ?c11 ?k11 ?a12 ?l12 ?c12 ?k12 ?a13 ?l13 ?c13 ?k13 ?a14 ?l14 ?c14 ?k14 ?a15 ?l15 ?c15 ?k15 ?a16 ?l16 ?c16 ?k16 ?a17 ?l17 ?c17 ?k17 ?z0 ?z1 ?z2 ?z3 ?z4 ?z5 ?z6 ?z7 ?z8 ?z9 ?y0 ?yl0
    (case aC_BearerError => k_is); (case xq_BearerError => k_exc); (case kc_BearerError => k_is); (case xb_BearerError => k_is); (case xt_BearerError => k_is); (case xg_BearerError => k_is); (case xh_BearerError => k_is); (case xd_BearerError => k_is); (case xa_BearerError => k_is); (case xn_BearerError => k_is); (case xz_BearerError => k_is); (case xo_BearerError => k_is); (case aC_NotValid => k_is); (case xq_NotValid => k_exc); (case kc_NotValid => k_is); (case xb_NotValid => k_is); (case xt_NotValid => k_is); (case xg_NotValid => k_is); (case xh_NotValid => k_is); (case xd_NotValid => k_is); (case xa_NotValid => k_is); (case xn_NotValid => k_is); (case xz_NotValid => k_is); (case xo_NotValid => k_is); (case xs_NotValid_BearerError => k_is); (case xs_NotValid_NotValid => k_is); (case aC_UpperSender => k_is); (case pg_UpperSender => k_is); (case hd_UpperSender => k_is); (case po_UpperSender => k_is); (case sa_UpperSender => k_is); (case mk_UpperSender => k_is); (case kc_UpperSender => k_is); (case na_UpperSender_bits => k_is); (case na_UpperSender_following => k_is); (case na_UpperSender_packets => k_is); (case a0 => k_is); (case l0 => k_is); (case c0 => k_is); (case k0 => k_is); (case a1 => k_is); (case i1 => k_is); (case l1 => k_is); (case c1 => k_is); (case k1 => k_is); (case a2 => k_is); (case i2 => k_is); (case l2 => k_is); (case c2 => k_is); (case k2 => k_is); (case a3 => k_is); (case i3 => k_is); (case l3 => k_is); (case c3 => k_is); (case k3 => k_is); (case a4 => k_is); (case i4 => k_is); (case l4 => k_is); (case c4 => k_is); (case k4 => k_is); (case a5 => k_is); (case i5 => k_is); (case l5 => k_is); (case c5 => k_is); (case k5 => k_is); (case a6 => k_is); (case i6 => k_is); (case l6 => k_is); (case c6 => k_is); (case k6 => k_is); (case a7 => k_is); (case i7 => k_is); (case l7 => k_is); (case c7 => k_is); (case k7 => k_is); (case a8 => k_is); (case i8 => k_is); (case l8 => k_is); (case c8 => k_is); (case k8 => k_is); (case a9 => k_is); (case l9 => k_is); (case c9 => k_is); (case k9 => k_is); (case a10 => k_is); (case l10 => k_is); (case c10 => k_is); (case k10 => k_is); (case a11 => k_is); (case l11 => k_is); (case c11 => k_is); (case k11 => k_is); (case a12 => k_is); (case l12 => k_is); (case c12 => k_is); (case k12 => k_is); (case a13 => k_is); (case l13 => k_is); (case c13 => k_is); (case k13 => k_is); (case a14 => k_is); (case l14 => k_is); (case c14 => k_is); (case k14 => k_is); (case a15 => k_is); (case l15 => k_is); (case c15 => k_is); (case k15 => k_is); (case a16 => k_is); (case l16 => k_is); (case c16 => k_is); (case k16 => k_is); (case a17 => k_is); (case l17 => k_is); (case c17 => k_is); (case k17 => k_is); (case z0 => k_is); (case z1 => k_is); (case z2 => k_is); (case z3 => k_is); (case z4 => k_is); (case z5 => k_is); (case z6 => k_is); (case z7 => k_is); (case z8 => k_is); (case z9 => k_is); (case y0 => k_is); (case yl0 => k_is)
