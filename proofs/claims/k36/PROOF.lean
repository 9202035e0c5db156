import PyProof.Rows.All
import Wide.All
import OpenK.AllK
import Wide.FinOn
import HandS.ForMost
import HandS.Evl
import HandS.IsInst
import HandS.Wide
import HandS.More
import HandS.SetFor
import HandS.SortInts
import HandS.TupSets
import HandS.ExcOwn
import HandS.ExcIs
import HandS.WordsExc
import HandS.TryOnly
import HandS.TupLe
import HandS.Style
import HandS.WideBits
import KE.DataMinMax
import HandS.SortKw
import HandS.DictComp
import HandS.Text
import PySem.Challenge.RW_bearerwise_k36_senders_that_have_a_piece
set_option Elab.async false
set_option linter.all false
set_option maxRecDepth 100000
set_option synthInstance.maxSize 1000
set_option synthInstance.maxHeartbeats 400000
set_option Elab.async false
set_option linter.all false
set_option maxRecDepth 100000
namespace Mr
open PySem PySem.Spec PyProof.Rows L2

/-! ### heaps -/
def Ex (H H' : Hp) : Prop := ∀ a o, H a = some o → H' a = some o
theorem Ex.refl (H : Hp) : Ex H H := fun _ _ h => h
theorem Ex.trans {H H1 H2 : Hp} (a : Ex H H1) (b : Ex H1 H2) : Ex H H2 := fun x o h => b x o (a x o h)
theorem Ex.new {H : Hp} {p : Addr} {o : HO} (h : H p = none) : Ex H (upd H p o) := fun a u e => by
  rw [upd_ne (ne_of_none e h)]
  exact e
theorem Ex.rd {H H' : Hp} {a : Addr} {u : HO} (e : Ex H H') (h : Rd H a u) : Rd H' a u := by
  rcases h with h | ⟨o, h⟩
  · exact Or.inl (e a _ h)
  · exact Or.inr ⟨o, e a _ h⟩
theorem Ex.sl {K : PySem.W.Frag} {H H' : Hp} {a : Addr} {xs : List V} (e : Ex H H') (h : SqL K H a xs) : SqL K H' a xs := by
  rcases h with h | h
  · exact Or.inl (e.rd h)
  · exact Or.inr h
theorem Ex.st {K : PySem.W.Frag} {H H' : Hp} {a : Addr} {xs : List V} (e : Ex H H') (h : SqT K H a xs) : SqT K H' a xs := by
  rcases h with h | h
  · exact Or.inl (e.rd h)
  · exact Or.inr h

/-! ### pure data: lists that stay in the heap G, tuples, scalars -/
mutual
inductive Dq (K : PySem.W.Frag) (G : Hp) : V → PyData → Prop
  | non : Dq K G .non .none
  | bl (b : Bool) : Dq K G (.bl b) (.bool b)
  | int (i : Int) : Dq K G (.int i) (.int i)
  | str (x : Str) : Dq K G (.str x) (.str x)
  | lst {a : Addr} {xs : List V} {ds : List PyData} : G a = some (.lst xs) → DqAll K G xs ds → Dq K G (.ref a) (.list ds)
  | tup {a : Addr} {xs : List V} {ds : List PyData} : SqT K G a xs → DqAll K G xs ds → Dq K G (.ref a) (.tuple ds)
inductive DqAll (K : PySem.W.Frag) (G : Hp) : List V → List PyData → Prop
  | nil : DqAll K G [] []
  | cons {v : V} {vs : List V} {d : PyData} {ds : List PyData} : Dq K G v d → DqAll K G vs ds → DqAll K G (v :: vs) (d :: ds)
end
section
variable {K : PySem.W.Frag} {G G' H : Hp}
mutual
theorem Dq.mono (e : Ex G G') : ∀ (d : PyData) (v : V), Dq K G v d → Dq K G' v d
  | .none, _, h => by cases h; exact .non
  | .bool b, _, h => by cases h; exact .bl b
  | .int i, _, h => by cases h; exact .int i
  | .str x, _, h => by cases h; exact .str x
  | .list ds, _, h => by
    cases h with
    | lst h1 h2 => exact .lst (e _ _ h1) (DqAll.mono e ds _ h2)
  | .tuple ds, _, h => by
    cases h with
    | tup h1 h2 => exact .tup (e.st h1) (DqAll.mono e ds _ h2)
  | .dict _, _, h => by cases h
theorem DqAll.mono (e : Ex G G') : ∀ (ds : List PyData) (vs : List V), DqAll K G vs ds → DqAll K G' vs ds
  | [], _, h => by cases h; exact .nil
  | d :: ds, _, h => by
    cases h with
    | cons h1 h2 => exact .cons (Dq.mono e d _ h1) (DqAll.mono e ds _ h2)
end
mutual
theorem Dq.dp : ∀ (d : PyData) (v : V), Dq K G v d → Dp K G v d
  | .none, _, h => by cases h; exact .non
  | .bool b, _, h => by cases h; exact .bl b
  | .int i, _, h => by cases h; exact .int i
  | .str x, _, h => by cases h; exact .str x
  | .list ds, _, h => by
    cases h with
    | lst h1 h2 => exact .lst (.inl (.inl h1)) (DqAll.dp ds _ h2)
  | .tuple ds, _, h => by
    cases h with
    | tup h1 h2 => exact .tup h1 (DqAll.dp ds _ h2)
  | .dict _, _, h => by cases h
theorem DqAll.dp : ∀ (ds : List PyData) (vs : List V), DqAll K G vs ds → DpAll K G vs ds
  | [], _, h => by cases h; exact .nil
  | d :: ds, _, h => by
    cases h with
    | cons h1 h2 => exact .cons (Dq.dp d _ h1) (DqAll.dp ds _ h2)
end
theorem DqAll.len : ∀ {ds : List PyData} {vs : List V}, DqAll K G vs ds → vs.length = ds.length
  | [], _, h => by cases h; rfl
  | d :: ds, _, h => by
    cases h with
    | cons h1 h2 => exact congrArg (· + 1) h2.len
theorem DqAll.get : ∀ {ds : List PyData} {vs : List V} {i : Nat} {d : PyData}, DqAll K G vs ds → ds[i]? = some d → ∃ v, vs[i]? = some v ∧ Dq K G v d
  | [], _, _, _, h, e => by simp at e
  | d :: ds, _, 0, _, h, e => by
    cases h with
    | cons h1 h2 => simp at e; subst e; exact ⟨_, rfl, h1⟩
  | d :: ds, _, i + 1, _, h, e => by
    cases h with
    | cons h1 h2 =>
      obtain ⟨v, a, b⟩ := h2.get (i := i) (by simpa using e)
      exact ⟨v, by simpa using a, b⟩
theorem DqAll.append : ∀ {ds es : List PyData} {vs us : List V}, DqAll K G vs ds → DqAll K G us es → DqAll K G (vs ++ us) (ds ++ es)
  | [], _, _, _, h, q => by cases h; exact q
  | d :: ds, _, _, _, h, q => by
    cases h with
    | cons h1 h2 => exact .cons h1 (h2.append q)
theorem DqAll.take : ∀ {ds : List PyData} {vs : List V} (n : Nat), DqAll K G vs ds → DqAll K G (vs.take n) (ds.take n)
  | _, _, 0, _ => .nil
  | [], _, _ + 1, h => by cases h; exact .nil
  | d :: ds, _, n + 1, h => by
    cases h with
    | cons h1 h2 => exact .cons h1 (h2.take n)
theorem DqAll.drop : ∀ {ds : List PyData} {vs : List V} (n : Nat), DqAll K G vs ds → DqAll K G (vs.drop n) (ds.drop n)
  | _, _, 0, h => h
  | [], _, _ + 1, h => by cases h; exact .nil
  | d :: ds, _, n + 1, h => by
    cases h with
    | cons h1 h2 => exact h2.drop n
end

/-! ### assertions: what stands at a value; F the addresses that it owns -/
structure OA where
  P : Hp → Hp → V → List Addr → Prop
  mono : ∀ {G H G' H' : Hp} {v : V} {F : List Addr}, P G H v F → Ex G G' → Ex G' H' → (∀ b ∈ F, ∀ o, H b = some o → H' b = some o) → P G' H' v F
/-- the cells of a list of assertions at a list of values -/
def Cs (G H : Hp) : List (Option OA) → List (Option V) → List Addr → Prop
  | [], [], F => F = []
  | none :: ρ, _ :: σ, F => Cs G H ρ σ F
  | some A :: ρ, x :: σ, F => ∃ v F1 F2, x = some v ∧ F = F1 ++ F2 ∧ A.P G H v F1 ∧ Cs G H ρ σ F2
  | _, _, _ => False
theorem Cs.mono {G H G' H' : Hp} (e : Ex G G') (e' : Ex G' H') : ∀ {ρ : List (Option OA)} {σ : List (Option V)} {F : List Addr}, Cs G H ρ σ F → (∀ b ∈ F, ∀ o, H b = some o → H' b = some o) → Cs G' H' ρ σ F
  | [], [], _, h, _ => h
  | [], _ :: _, _, h, _ => h.elim
  | none :: _, [], _, h, _ => h.elim
  | some _ :: _, [], _, h, _ => h.elim
  | none :: ρ, _ :: σ, _, h, k => Cs.mono e e' (ρ := ρ) (σ := σ) h k
  | some A :: ρ, x :: σ, _, h, k => by
    obtain ⟨v, F1, F2, e1, e2, a, c⟩ := h
    subst e2
    exact ⟨v, F1, F2, e1, rfl, A.mono a e e' fun b hb => k b (List.mem_append_left _ hb), Cs.mono e e' c fun b hb => k b (List.mem_append_right _ hb)⟩
theorem Cs.len {G H : Hp} : ∀ {ρ : List (Option OA)} {σ : List (Option V)} {F : List Addr}, Cs G H ρ σ F → ρ.length = σ.length
  | [], [], _, _ => rfl
  | [], _ :: _, _, h => h.elim
  | none :: _, [], _, h => h.elim
  | some _ :: _, [], _, h => h.elim
  | none :: ρ, _ :: σ, _, h => congrArg (· + 1) (Cs.len (ρ := ρ) (σ := σ) h)
  | some A :: ρ, x :: σ, _, h => by
    obtain ⟨v, F1, F2, e1, e2, a, c⟩ := h
    exact congrArg (· + 1) c.len
/-- one cell is taken out -/
theorem Cs.split {G H : Hp} : ∀ {ρ : List (Option OA)} {σ : List (Option V)} {F : List Addr} {i : Nat} {A : OA}, Cs G H ρ σ F → ρ[i]? = some (some A) →
    ∃ v F1 F2, σ[i]? = some (some v) ∧ F.Perm (F1 ++ F2) ∧ A.P G H v F1 ∧ Cs G H (ρ.set i none) σ F2
  | [], _, _, _, _, _, e => by simp at e
  | none :: _, [], _, _, _, h, _ => h.elim
  | some _ :: _, [], _, _, _, h, _ => h.elim
  | none :: ρ, x :: σ, F, 0, A, h, e => by simp at e
  | none :: ρ, x :: σ, F, i + 1, A, h, e => by
    obtain ⟨v, F1, F2, a, b, c, d⟩ := Cs.split (ρ := ρ) (σ := σ) (i := i) (A := A) h (by simpa using e)
    exact ⟨v, F1, F2, by simpa using a, b, c, d⟩
  | some B :: ρ, x :: σ, F, 0, A, h, e => by
    obtain ⟨v, F1, F2, e1, e2, a, c⟩ := h
    simp at e
    subst e e1 e2
    exact ⟨v, F1, F2, rfl, .refl _, a, c⟩
  | some B :: ρ, x :: σ, F, i + 1, A, h, e => by
    obtain ⟨v, F1, F2, e1, e2, a, c⟩ := h
    obtain ⟨u, F3, F4, b1, b2, b3, b4⟩ := Cs.split (i := i) (A := A) c (by simpa using e)
    subst e1 e2
    refine ⟨u, F3, F1 ++ F4, by simpa using b1, ?_, b3, v, F1, F4, rfl, rfl, a, b4⟩
    refine (List.Perm.append_left F1 b2).trans ?_
    rw [← List.append_assoc, ← List.append_assoc]
    exact List.Perm.append_right F4 List.perm_append_comm
/-- one cell is put in -/
theorem Cs.join {G H : Hp} : ∀ {ρ : List (Option OA)} {σ : List (Option V)} {F2 : List Addr} {i : Nat} {A : OA} {v : V} {F1 : List Addr}, Cs G H (ρ.set i none) σ F2 → i < ρ.length → A.P G H v F1 →
    ∃ F, F.Perm (F1 ++ F2) ∧ Cs G H (ρ.set i (some A)) (σ.set i (some v)) F
  | [], _, _, _, _, _, _, _, l, _ => by simp at l
  | _ :: ρ, [], _, 0, _, _, _, h, _, _ => h.elim
  | none :: ρ, [], _, i + 1, _, _, _, h, _, _ => h.elim
  | some _ :: ρ, [], _, i + 1, _, _, _, h, _, _ => h.elim
  | _ :: ρ, x :: σ, F2, 0, A, v, F1, h, _, a => ⟨F1 ++ F2, .refl _, v, F1, F2, rfl, rfl, a, h⟩
  | none :: ρ, x :: σ, F2, i + 1, A, v, F1, h, l, a => by
    obtain ⟨F, p, q⟩ := Cs.join (ρ := ρ) (σ := σ) (i := i) (A := A) (v := v) (F1 := F1) (F2 := F2) h (by simpa using l) a
    exact ⟨F, p, q⟩
  | some B :: ρ, x :: σ, F2, i + 1, A, v, F1, h, l, a => by
    obtain ⟨u, F3, F4, e1, e2, b, c⟩ := h
    obtain ⟨F, p, q⟩ := Cs.join (ρ := ρ) (σ := σ) (i := i) (A := A) (v := v) (F1 := F1) (F2 := F4) c (by simpa using l) a
    subst e1 e2
    refine ⟨F3 ++ F, ?_, u, F3, F, rfl, rfl, b, q⟩
    refine (List.Perm.append_left F3 p).trans ?_
    rw [← List.append_assoc, ← List.append_assoc]
    exact List.Perm.append_right F4 List.perm_append_comm
theorem Cs.forget {G H : Hp} : ∀ {ρ : List (Option OA)} {σ : List (Option V)} {F : List Addr} {i : Nat} {x : Option V}, Cs G H ρ σ F → ∃ F', F'.Sublist F ∧ Cs G H (ρ.set i none) (σ.set i x) F'
  | [], [], F, _, _, h => ⟨F, .refl _, h⟩
  | [], _ :: _, _, _, _, h => h.elim
  | none :: _, [], _, _, _, h => h.elim
  | some _ :: _, [], _, _, _, h => h.elim
  | none :: ρ, y :: σ, F, 0, x, h => ⟨F, .refl _, h⟩
  | some A :: ρ, y :: σ, F, 0, x, h => by
    obtain ⟨v, F1, F2, e1, e2, a, c⟩ := h
    subst e2
    exact ⟨F2, List.sublist_append_right _ _, c⟩
  | none :: ρ, y :: σ, F, i + 1, x, h => by
    obtain ⟨F', s, c⟩ := Cs.forget (ρ := ρ) (σ := σ) (i := i) (x := x) h
    exact ⟨F', s, c⟩
  | some A :: ρ, y :: σ, F, i + 1, x, h => by
    obtain ⟨v, F1, F2, e1, e2, a, c⟩ := h
    obtain ⟨F', s, q⟩ := Cs.forget (i := i) (x := x) c
    subst e1 e2
    exact ⟨F1 ++ F', List.Sublist.append_left s F1, v, F1, F', rfl, rfl, a, q⟩
theorem Cs.append {G H : Hp} : ∀ {ρ1 ρ2 : List (Option OA)} {σ1 σ2 : List (Option V)} {F1 F2 : List Addr}, Cs G H ρ1 σ1 F1 → Cs G H ρ2 σ2 F2 → Cs G H (ρ1 ++ ρ2) (σ1 ++ σ2) (F1 ++ F2)
  | [], _, [], _, _, _, h, q => by
    have e : _ = [] := h
    subst e
    exact q
  | [], _, _ :: _, _, _, _, h, _ => h.elim
  | none :: _, _, [], _, _, _, h, _ => h.elim
  | some _ :: _, _, [], _, _, _, h, _ => h.elim
  | none :: ρ, _, y :: σ, _, _, _, h, q => Cs.append (ρ1 := ρ) (σ1 := σ) h q
  | some A :: ρ, _, y :: σ, _, _, _, h, q => by
    obtain ⟨v, F1, F2, e1, e2, a, c⟩ := h
    subst e2
    exact ⟨v, F1, _, e1, List.append_assoc _ _ _, a, c.append q⟩
theorem Cs.unappend {G H : Hp} : ∀ {ρ1 ρ2 : List (Option OA)} {σ1 σ2 : List (Option V)} {F : List Addr}, ρ1.length = σ1.length → Cs G H (ρ1 ++ ρ2) (σ1 ++ σ2) F → ∃ F1 F2, F = F1 ++ F2 ∧ Cs G H ρ1 σ1 F1 ∧ Cs G H ρ2 σ2 F2
  | [], _, [], _, F, _, h => ⟨[], F, rfl, rfl, h⟩
  | [], _, _ :: _, _, _, l, _ => by simp at l
  | _ :: _, _, [], _, _, l, _ => by simp at l
  | none :: ρ, ρ2, y :: σ, σ2, F, l, h => by
    obtain ⟨F1, F2, a, b, c⟩ := Cs.unappend (ρ1 := ρ) (ρ2 := ρ2) (σ1 := σ) (σ2 := σ2) (F := F) (by simpa using l) h
    exact ⟨F1, F2, a, b, c⟩
  | some A :: ρ, ρ2, y :: σ, σ2, F, l, h => by
    obtain ⟨v, F1, F2, e1, e2, a, c⟩ := h
    obtain ⟨F3, F4, q1, q2, q3⟩ := Cs.unappend (by simpa using l) c
    subst e2 q1
    exact ⟨F1 ++ F3, F4, (List.append_assoc _ _ _).symm, ⟨v, F1, F3, e1, rfl, a, q2⟩, q3⟩

/-! ### what stands behind a run: E its entry; G what is known to stay, F what is owned -/
structure Ent where
  G : Hp
  H : Hp
  F : List Addr
structure Frm (E : Ent) (G H : Hp) (F : List Addr) : Prop where
  gg : Ex E.G G
  gh : Ex G H
  nd : F.Nodup
  dis : ∀ b ∈ F, G b = none
  live : ∀ b ∈ F, H b ≠ none
  keep : ∀ b o, E.H b = some o → b ∉ E.F → H b = some o
  fp : ∀ b ∈ F, b ∈ E.F ∨ E.H b = none
  gn : ∀ b o, G b = some o → E.G b = none → b ∈ E.F ∨ E.H b = none
theorem Frm.perm {E : Ent} {G H : Hp} {F F' : List Addr} (h : Frm E G H F) (p : F.Perm F') : Frm E G H F' :=
  ⟨h.gg, h.gh, (p.nodup_iff).mp h.nd, fun b hb => h.dis b (p.mem_iff.mpr hb), fun b hb => h.live b (p.mem_iff.mpr hb), h.keep, fun b hb => h.fp b (p.mem_iff.mpr hb), h.gn⟩
theorem Frm.less {E : Ent} {G H : Hp} {F F' : List Addr} (h : Frm E G H F) (p : F'.Sublist F) : Frm E G H F' :=
  ⟨h.gg, h.gh, h.nd.sublist p, fun b hb => h.dis b (p.subset hb), fun b hb => h.live b (p.subset hb), h.keep, fun b hb => h.fp b (p.subset hb), h.gn⟩
theorem Frm.start {E : Ent} {G H : Hp} {F : List Addr} (h : Frm E G H F) : Frm ⟨G, H, F⟩ G H F :=
  ⟨.refl _, h.gh, h.nd, h.dis, h.live, fun _ _ q _ => q, fun _ hb => .inl hb, fun b o q n => by rw [show G b = none from n] at q; cases q⟩
theorem Frm.old {E : Ent} {G H : Hp} {F : List Addr} (h : Frm E G H F) {b : Addr} (n : H b = none) : b ∈ E.F ∨ E.H b = none := by
  cases q : E.H b with
  | none => exact .inr rfl
  | some o =>
    by_cases hb : b ∈ E.F
    · exact .inl hb
    · rw [h.keep b o q hb] at n; cases n
/-- a step with a part of what is owned -/
theorem Frm.step {E : Ent} {G H G' H' : Hp} {F Fa Fr Fb : List Addr} (h : Frm E G H F) (p : F.Perm (Fa ++ Fr)) (s : Frm ⟨G, H, Fa⟩ G' H' Fb) : Frm E G' H' (Fb ++ Fr) ∧ ∀ b ∈ Fr, ∀ o, H b = some o → H' b = some o := by
  have h' := h.perm p
  have apart : ∀ b ∈ Fr, b ∉ Fa := fun b hb ha => (List.nodup_append.mp h'.nd).2.2 b ha b hb rfl
  have stay : ∀ b ∈ Fr, ∀ o, H b = some o → H' b = some o := fun b hb o q => s.keep b o q (apart b hb)
  have lv : ∀ b ∈ Fr, H b ≠ none := fun b hb => h'.live b (List.mem_append_right _ hb)
  have apart' : ∀ b ∈ Fr, b ∉ Fb := fun b hb ha => by
    rcases s.fp b ha with q | q
    · exact apart b hb q
    · exact lv b hb q
  refine ⟨⟨h.gg.trans s.gg, s.gh, ?_, fun b hb => ?_, fun b hb => ?_, fun b o q n => ?_, fun b hb => ?_, fun b o q n => ?_⟩, stay⟩
  · refine List.nodup_append.mpr ⟨s.nd, (List.nodup_append.mp h'.nd).2.1, fun a ha b hb e => ?_⟩
    subst e
    exact apart' a hb ha
  · rcases List.mem_append.mp hb with hb | hb
    · exact s.dis b hb
    · cases q : G' b with
      | none => rfl
      | some o =>
        rcases s.gn b o q (h'.dis b (List.mem_append_right _ hb)) with z | z
        · exact absurd z (apart b hb)
        · exact absurd z (lv b hb)
  · rcases List.mem_append.mp hb with hb | hb
    · exact s.live b hb
    · cases q : H b with
      | none => exact absurd q (lv b hb)
      | some o => rw [stay b hb o q]; simp
  · have q1 := h.keep b o q n
    refine s.keep b o q1 fun ha => ?_
    rcases h'.fp b (List.mem_append_left _ ha) with z | z
    · exact n z
    · rw [q] at z; cases z
  · rcases List.mem_append.mp hb with hb | hb
    · rcases s.fp b hb with z | z
      · exact h'.fp b (List.mem_append_left _ z)
      · exact h.old z
    · exact h'.fp b (List.mem_append_right _ hb)
  · cases q1 : G b with
    | some u => exact h.gn b u q1 n
    | none =>
      rcases s.gn b o q q1 with z | z
      · exact h'.fp b (List.mem_append_left _ z)
      · exact h.old z
/-- small steps -/
theorem Frm.alloc {G H : Hp} {p : Addr} {o : HO} (e : Ex G H) (n : H p = none) : Frm ⟨G, H, []⟩ G (upd H p o) [p] where
  gg := .refl _
  gh := e.trans (.new n)
  nd := by simp
  dis := fun b hb => by
    have e1 : b = p := by simpa using hb
    subst e1
    cases q : G b with
    | none => rfl
    | some u => rw [e b u q] at n; cases n
  live := fun b hb => by
    have e1 : b = p := by simpa using hb
    subst e1
    rw [upd_same]; simp
  keep := fun b u q _ => Ex.new n b u q
  fp := fun b hb => by
    have e1 : b = p := by simpa using hb
    subst e1
    exact .inr n
  gn := fun b u q n' => by rw [show G b = none from n'] at q; cases q
/-- a new object that stays -/
theorem Frm.allocG {G H : Hp} {p : Addr} {o : HO} (e : Ex G H) (n : H p = none) : Frm ⟨G, H, []⟩ (upd G p o) (upd H p o) [] := by
  have gn : G p = none := by
    cases q : G p with
    | none => rfl
    | some u => rw [e p u q] at n; cases n
  refine ⟨.new gn, fun b u q => ?_, by simp, fun b hb => by simp at hb, fun b hb => by simp at hb, fun b u q _ => Ex.new n b u q, fun b hb => by simp at hb, fun b u q n' => ?_⟩
  · by_cases hb : b = p
    · subst hb; rw [upd_same] at q ⊢; exact q
    · rw [upd_ne hb] at q ⊢; exact e b u q
  · by_cases hb : b = p
    · subst hb; exact .inr n
    · rw [upd_ne hb, show G b = none from n'] at q; cases q
/-- an owned object stays from now on -/
theorem Frm.freeze {G H : Hp} {p : Addr} {o : HO} (e : Ex G H) (g : G p = none) (h : H p = some o) : Frm ⟨G, H, [p]⟩ (upd G p o) H [] := by
  refine ⟨.new g, fun b u q => ?_, by simp, fun b hb => by simp at hb, fun b hb => by simp at hb, fun b u q _ => q, fun b hb => by simp at hb, fun b u q n' => ?_⟩
  · by_cases hb : b = p
    · subst hb; rw [upd_same] at q; cases q; exact h
    · rw [upd_ne hb] at q; exact e b u q
  · by_cases hb : b = p
    · exact .inl (by simp [hb])
    · rw [upd_ne hb, show G b = none from n'] at q; cases q
/-- an owned object is changed -/
theorem Frm.write {G H : Hp} {p : Addr} {o : HO} {F : List Addr} (b0 : Frm ⟨G, H, p :: F⟩ G H (p :: F)) : Frm ⟨G, H, p :: F⟩ G (upd H p o) (p :: F) where
  gg := .refl _
  gh := fun b u q => by
    have n : b ≠ p := fun z => by
      subst z
      rw [b0.dis b (by simp)] at q; cases q
    rw [upd_ne n]; exact b0.gh b u q
  nd := b0.nd
  dis := b0.dis
  live := fun b hb => by
    by_cases z : b = p
    · subst z; rw [upd_same]; simp
    · rw [upd_ne z]; exact b0.live b hb
  keep := fun b u q n => by
    have z : b ≠ p := fun z => n (by simp [z])
    rw [upd_ne z]; exact q
  fp := fun b hb => .inl hb
  gn := fun b u q n => by rw [show G b = none from n] at q; cases q

/-! ### the state of a run: ρ what is known of the cells σ -/
def ST (E : Ent) (ρ : List (Option OA)) (σ : List (Option V)) (H : Hp) : Prop := ∃ G F, Frm E G H F ∧ Cs G H ρ σ F
end Mr

set_option Elab.async false
set_option linter.all false
set_option maxRecDepth 100000
namespace Mr
open PySem PySem.Spec PyProof.Rows L2

abbrev Cl := List (Option OA)

/-! ### the weakest readings -/
def wE (X : Cx) (e : Expr) : TE := fun σ H Q => ∀ pins s, Inv X pins σ H s → wpAny (model X.prog X.w) X.A (eval e X.env) (EP X pins σ Q) X.xe s
def wT (X : Cx) (e : Expr) : TT := fun σ H Q => ∀ pins s, Inv X pins σ H s → wpAny (model X.prog X.w) X.A (isTrue e X.env (eval e X.env)) (TP X pins σ Q) X.xe s
def wW (X : Cx) (e : Expr) : TT := fun σ H Q => ∀ whole pins s, Inv X pins σ H s → wpAny (model X.prog X.w) X.A (isTrue e X.env whole) (TP X pins σ Q) X.xe s
def wA (X : Cx) (es : List Expr) : TA := fun σ H Q => ∀ pos pins s, Inv X pins σ H s → wpAny (model X.prog X.w) X.A (spliced (backTo pos (starEach es X.env))) (AP X pins σ Q) X.xe s
def wS (X : Cx) (sts : List Stmt) : TS := fun D σ H => ∀ pins s, Inv X pins σ H s → wpAny (model X.prog X.w) X.A (execs sts X.env) (SP X pins D) X.xe s
section
variable {X : Cx} {e : Expr} {es : List Expr} {st : Stmt} {sts : List Stmt} {σ : L2.St} {H : Hp}
theorem peS : PE X e (wE X e) := ⟨fun pins s _ _ _ I h => h pins s I⟩
theorem ptS : PT X e (wT X e) := ⟨fun pins s _ _ _ I h => h pins s I⟩
theorem pwS : PW X e (wW X e) := ⟨fun wh pins s _ _ _ I h => h wh pins s I⟩
theorem paS : PA X es (wA X es) := ⟨fun p pins s _ _ _ I h => h p pins s I⟩
theorem pssS : PSs X sts (wS X sts) := ⟨fun pins s _ _ _ I h => h pins s I⟩
theorem wE.of {t : TE} (h : PE X e t) {Q : VK} (q : t σ H Q) : wE X e σ H Q := fun pins s I => h.run pins s σ H Q I q
theorem wT.of {t : TT} (h : PT X e t) {Q : Bool → Hp → Prop} (q : t σ H Q) : wT X e σ H Q := fun pins s I => h.run pins s σ H Q I q
theorem wW.of {t : TT} (h : PW X e t) {Q : Bool → Hp → Prop} (q : t σ H Q) : wW X e σ H Q := fun wh pins s I => h.run wh pins s σ H Q I q
theorem wA.of {t : TA} (h : PA X es t) {Q : List V → Hp → Prop} (q : t σ H Q) : wA X es σ H Q := fun p pins s I => h.run p pins s σ H Q I q
theorem wS.of {t : TS} (h : PSs X sts t) {D : Ends} (q : t D σ H) : wS X sts D σ H := fun pins s I => h.run pins s σ H D I q
end

/-! ### assertions -/
def aD (K : PySem.W.Frag) (d : PyData) : OA := ⟨fun G _ v F => Dq K G v d ∧ F = [], fun h e _ _ => ⟨Dq.mono e _ _ h.1, h.2⟩⟩
def aV (v0 : V) : OA := ⟨fun _ _ v F => v = v0 ∧ F = [], fun h _ _ _ => h⟩
def pin (v0 : V) (A : OA) : OA := ⟨fun G H v F => v = v0 ∧ A.P G H v F, fun h e e' k => ⟨h.1, A.mono h.2 e e' k⟩⟩
/-- an owned list of things -/
def aL (As : List OA) : OA := ⟨fun G H v F => ∃ p vs F', v = .ref p ∧ F = p :: F' ∧ H p = some (.lst vs) ∧ Cs G H (As.map some) (vs.map some) F', fun h e e' k => by
  obtain ⟨p, vs, F', e1, e2, h1, c⟩ := h
  subst e2
  exact ⟨p, vs, F', e1, rfl, k p (by simp) _ h1, c.mono e e' fun b hb => k b (by simp [hb])⟩⟩
/-- an owned list of pure data -/
abbrev aLD (K : PySem.W.Frag) (ds : List PyData) : OA := aL (ds.map (aD K))
/-- a list that may be read (the script) -/
def aR (K : PySem.W.Frag) (ds : List PyData) : OA := ⟨fun G _ v F => (∃ a xs, v = .ref a ∧ SqL K G a xs ∧ DqAll K G xs ds) ∧ F = [], fun h e _ _ => by
  obtain ⟨⟨a, xs, e1, e2, e3⟩, e4⟩ := h
  exact ⟨⟨a, xs, e1, e.sl e2, DqAll.mono e _ _ e3⟩, e4⟩⟩

theorem csD {K : PySem.W.Frag} {G H : Hp} : ∀ {ds : List PyData} {vs : List V} {F : List Addr}, Cs G H ((ds.map (aD K)).map some) (vs.map some) F → DqAll K G vs ds ∧ F = []
  | [], [], _, h => ⟨.nil, h⟩
  | [], _ :: _, _, h => h.elim
  | _ :: _, [], _, h => h.elim
  | d :: ds, x :: vs, F, h => by
    obtain ⟨v, F1, F2, e1, e2, a, c⟩ := h
    obtain ⟨q1, q2⟩ := csD (ds := ds) (vs := vs) c
    cases e1
    obtain ⟨a1, a2⟩ := a
    subst e2 a2 q2
    exact ⟨.cons a1 q1, rfl⟩
theorem csD' {K : PySem.W.Frag} {G H : Hp} : ∀ {ds : List PyData} {vs : List V}, DqAll K G vs ds → Cs G H ((ds.map (aD K)).map some) (vs.map some) []
  | [], _, h => by cases h; exact rfl
  | d :: ds, _, h => by
    cases h with
    | cons h1 h2 => exact ⟨_, [], [], rfl, rfl, ⟨h1, rfl⟩, csD' h2⟩

/-! ### judgements -/
/-- the expression e, where ρ is known, gives a thing of which A holds, and leaves ρ' -/
def XE (X : Cx) (e : Expr) (ρ ρ' : Cl) (A : OA) : Prop := ∀ (E : Ent) (T : Cl) (t σ : L2.St) (H : Hp), T.length = t.length → ST E (T ++ ρ) (t ++ σ) H →
  ∀ Q : VK, (∀ v H', ST E (some A :: (T ++ ρ')) (some v :: (t ++ σ)) H' → Q v H') → wE X e σ H Q
def XT (X : Cx) (e : Expr) (ρ ρ' : Cl) (b : Bool) : Prop := ∀ (E : Ent) (T : Cl) (t σ : L2.St) (H : Hp), T.length = t.length → ST E (T ++ ρ) (t ++ σ) H →
  ∀ Q : Bool → Hp → Prop, (∀ H', ST E (T ++ ρ') (t ++ σ) H' → Q b H') → wT X e σ H Q
def XW (X : Cx) (e : Expr) (ρ ρ' : Cl) (b : Bool) : Prop := ∀ (E : Ent) (T : Cl) (t σ : L2.St) (H : Hp), T.length = t.length → ST E (T ++ ρ) (t ++ σ) H →
  ∀ Q : Bool → Hp → Prop, (∀ H', ST E (T ++ ρ') (t ++ σ) H' → Q b H') → wW X e σ H Q
def XA (X : Cx) (es : List Expr) (ρ ρ' : Cl) (As : List OA) : Prop := ∀ (E : Ent) (T : Cl) (t σ : L2.St) (H : Hp), T.length = t.length → ST E (T ++ ρ) (t ++ σ) H →
  ∀ Q : List V → Hp → Prop, (∀ vs H', vs.length = As.length → ST E (As.map some ++ (T ++ ρ')) (vs.map some ++ (t ++ σ)) H' → Q vs H') → wA X es σ H Q
def XG (X : Cx) {ω : Type} (sts : List Stmt) (ρ : Cl) (m : Option ω) (Φ : ω → Ent → Ends → Prop) : Prop := ∀ o, m = some o → ∀ (E : Ent) (σ : L2.St) (H : Hp) (D : Ends), ST E ρ σ H → Φ o E D → wS X sts D σ H
/-- it returns | it goes on | one of both -/
def oR {γ : Type} (R : γ → Cl) : γ → Ent → Ends → Prop := fun r E D => ∀ v σ' H', ST E (R r) (some v :: σ') H' → D.rt v H'
def oS {β : Type} (N : β → Cl) : β → Ent → Ends → Prop := fun b E D => ∀ σ' H', ST E (N b) σ' H' → D.nx σ' H'
def oB {γ β : Type} (R : γ → Cl) (N : β → Cl) : γ ⊕ β → Ent → Ends → Prop
  | .inl r => oR R r
  | .inr b => oS N b

/-! ### the state's moves -/
theorem append_set_right {α : Type} (T ρ : List α) (i : Nat) (x : α) : (T ++ ρ).set (T.length + i) x = T ++ ρ.set i x := by
  rw [List.set_append_right _ _ (Nat.le_add_right _ _), Nat.add_sub_cancel_left]
theorem append_get_right {α : Type} (T ρ : List α) (i : Nat) : (T ++ ρ)[T.length + i]? = ρ[i]? := by
  rw [List.getElem?_append_right (Nat.le_add_right _ _), Nat.add_sub_cancel_left]
theorem Cs.slot {G H : Hp} {T ρ : Cl} {t σ : L2.St} {F : List Addr} {i : Nat} {A : OA} (l : T.length = t.length) (c : Cs G H (T ++ ρ) (t ++ σ) F) (h : ρ[i]? = some (some A)) :
    ∃ v F1 F2, σ[i]? = some (some v) ∧ F.Perm (F1 ++ F2) ∧ A.P G H v F1 ∧ Cs G H (T ++ ρ.set i none) (t ++ σ) F2 := by
  obtain ⟨v, F1, F2, a, b, p, q⟩ := c.split (i := T.length + i) (by rw [append_get_right]; exact h)
  rw [l, append_get_right] at a
  rw [append_set_right] at q
  exact ⟨v, F1, F2, a, b, p, q⟩
theorem Cs.back {G H : Hp} {T ρ : Cl} {t σ : L2.St} {F2 : List Addr} {i : Nat} {A : OA} {v : V} {F1 : List Addr} (l : T.length = t.length) (c : Cs G H (T ++ ρ.set i none) (t ++ σ) F2) (hi : i < ρ.length) (hv : σ[i]? = some (some v)) (p : A.P G H v F1) :
    ∃ F, F.Perm (F1 ++ F2) ∧ Cs G H (T ++ ρ.set i (some A)) (t ++ σ) F := by
  rw [← append_set_right] at c
  obtain ⟨F, a, b⟩ := c.join (by rw [List.length_append]; omega) p
  refine ⟨F, a, ?_⟩
  rw [append_set_right, l, append_set_right] at b
  have e : σ.set i (some v) = σ := by
    refine List.ext_getElem? fun j => ?_
    by_cases z : i = j
    · subst z
      have hl : i < σ.length := by
        by_cases q : i < σ.length
        · exact q
        · rw [List.getElem?_eq_none (by omega)] at hv; cases hv
      rw [List.getElem?_set_self hl, hv]
    · rw [List.getElem?_set_ne z]
  rwa [e] at b
theorem lt_of_get {α : Type} {l : List α} {i : Nat} {x : α} (h : l[i]? = some x) : i < l.length := by
  by_cases q : i < l.length
  · exact q
  · rw [List.getElem?_eq_none (by omega)] at h; cases h
theorem set_get {α : Type} {l : List α} {i : Nat} {x : α} (h : l[i]? = some x) : l.set i x = l := by
  refine List.ext_getElem? fun j => ?_
  by_cases z : i = j
  · subst z
    rw [List.getElem?_set_self (lt_of_get h), h]
  · rw [List.getElem?_set_ne z]
theorem set_set {α : Type} (l : List α) (i : Nat) (x y : α) : (l.set i x).set i y = l.set i y := by
  refine List.ext_getElem? fun j => ?_
  by_cases z : i = j
  · subst z
    by_cases q : i < l.length
    · rw [List.getElem?_set_self (by rw [List.length_set]; exact q), List.getElem?_set_self q]
    · rw [List.getElem?_eq_none (by simp; omega), List.getElem?_eq_none (by simp; omega)]
  · rw [List.getElem?_set_ne z, List.getElem?_set_ne z, List.getElem?_set_ne z]
/-- weaker knowledge -/
def Wk : Cl → Cl → Prop
  | [], [] => True
  | _ :: l, none :: l' => Wk l l'
  | a :: l, some b :: l' => a = some b ∧ Wk l l'
  | _, _ => False
theorem Cs.wk {G H : Hp} : ∀ {ρ ρ' : Cl} {σ : L2.St} {F : List Addr}, Cs G H ρ σ F → Wk ρ ρ' → ∃ F', F'.Sublist F ∧ Cs G H ρ' σ F'
  | [], [], [], F, c, _ => ⟨F, .refl _, c⟩
  | [], [], _ :: _, F, c, _ => c.elim
  | [], _ :: _, _, _, _, w => w.elim
  | _ :: _, [], _, _, _, w => w.elim
  | none :: _, _ :: _, [], _, c, _ => c.elim
  | some _ :: _, _ :: _, [], _, c, _ => c.elim
  | none :: ρ, none :: ρ', x :: σ, F, c, w => by
    obtain ⟨F', a, b⟩ := Cs.wk (ρ := ρ) (ρ' := ρ') (σ := σ) c w
    exact ⟨F', a, b⟩
  | none :: ρ, some B :: ρ', x :: σ, F, c, w => nomatch w.1
  | some A :: ρ, none :: ρ', x :: σ, F, c, w => by
    obtain ⟨v, F1, F2, e1, e2, a, c⟩ := c
    obtain ⟨F', p, q⟩ := Cs.wk (ρ' := ρ') c w
    subst e2
    exact ⟨F', p.trans (List.sublist_append_right _ _), q⟩
  | some A :: ρ, some B :: ρ', x :: σ, F, c, w => by
    obtain ⟨v, F1, F2, e1, e2, a, c⟩ := c
    obtain ⟨w1, w2⟩ := w
    cases w1
    obtain ⟨F', p, q⟩ := Cs.wk (ρ' := ρ') c w2
    subst e2
    exact ⟨F1 ++ F', List.Sublist.append_left p F1, v, F1, F', e1, rfl, a, q⟩
theorem ST.wk {E : Ent} {ρ ρ' : Cl} {σ : L2.St} {H : Hp} (h : ST E ρ σ H) (w : Wk ρ ρ') : ST E ρ' σ H := by
  obtain ⟨G, F, f, c⟩ := h
  obtain ⟨F', s, c'⟩ := c.wk w
  exact ⟨G, F', f.less s, c'⟩
theorem ST.pop {E : Ent} {ρ : Cl} {σ : L2.St} {H : Hp} {A : OA} {x : Option V} (h : ST E (some A :: ρ) (x :: σ) H) : ST E ρ σ H := by
  obtain ⟨G, F, f, v, F1, F2, e1, e2, a, c⟩ := h
  subst e2
  exact ⟨G, F2, f.less (List.sublist_append_right _ _), c⟩
/-- the top goes into the cell i -/
theorem ST.assign {E : Ent} {ρ : Cl} {σ : L2.St} {H : Hp} {A : OA} {v : V} {i : Nat} (h : ST E (some A :: ρ) (some v :: σ) H) (hi : i < ρ.length) : ST E (ρ.set i (some A)) (σ.set i (some v)) H := by
  obtain ⟨G, F, f, v', F1, F2, e1, e2, a, c⟩ := h
  cases e1
  subst e2
  obtain ⟨F3, s, c1⟩ := c.forget (i := i) (x := none)
  have f1 : Frm E G H (F1 ++ F3) := f.less (List.Sublist.append_left s F1)
  obtain ⟨F4, p, c2⟩ := c1.join hi a
  rw [set_set] at c2
  exact ⟨G, F4, f1.perm p.symm, c2⟩

/-! ### one value, two values on the top -/
theorem ST.top {E : Ent} {K : PySem.W.Frag} {ρ : Cl} {σ : L2.St} {H : Hp} {d : PyData} {v : V} (h : ST E (some (aD K d) :: ρ) (some v :: σ) H) : ∃ G F, Frm E G H F ∧ Cs G H ρ σ F ∧ Dq K G v d := by
  obtain ⟨G, F, f, v', F1, F2, e1, e2, a, c⟩ := h
  cases e1
  obtain ⟨a1, a2⟩ := a
  subst e2 a2
  exact ⟨G, F2, f, c, a1⟩
theorem ST.top2 {E : Ent} {K : PySem.W.Frag} {ρ : Cl} {σ : L2.St} {H : Hp} {d e : PyData} {v w : V} (h : ST E (some (aD K e) :: some (aD K d) :: ρ) (some w :: some v :: σ) H) : ∃ G F, Frm E G H F ∧ Cs G H ρ σ F ∧ Dq K G v d ∧ Dq K G w e := by
  obtain ⟨G, F, f, c, q⟩ := h.top
  obtain ⟨v', F1, F2, e1, e2, a, c⟩ := c
  cases e1
  obtain ⟨a1, a2⟩ := a
  subst e2 a2
  exact ⟨G, F2, f, c, a1, q⟩
theorem ST.put {E : Ent} {K : PySem.W.Frag} {ρ : Cl} {σ : L2.St} {G H : Hp} {F : List Addr} {d : PyData} {v : V} (f : Frm E G H F) (c : Cs G H ρ σ F) (q : Dq K G v d) : ST E (some (aD K d) :: ρ) (some v :: σ) H := ⟨G, F, f, v, [], F, rfl, rfl, ⟨q, rfl⟩, c⟩

/-! ### expressions: names and constants -/
section
variable {X : Cx} {ρ ρ1 ρ2 ρ3 : Cl} {a b c : Expr} {pos : Pos}
theorem xe_c {v : V} {d : PyData} (h : PE X a (tC v)) (q : ∀ G, Dq X.K G v d) : XE X a ρ ρ (aD X.K d) := fun E T t σ H l st Q k => by
  obtain ⟨G, F, f, cs⟩ := st
  exact wE.of h (k v H (ST.put f cs (q G)))
theorem xe_int {i : Int} {j : Nat} : XE X (.Constant (.int i) j pos) ρ ρ (aD X.K (.int i)) := xe_c pe_int fun _ => .int _
theorem xe_bl {i : Bool} {j : Nat} : XE X (.Constant (.bool i) j pos) ρ ρ (aD X.K (.bool i)) := xe_c pe_bl fun _ => .bl _
theorem xe_str {i : Str} {j : Nat} : XE X (.Constant (.str i) j pos) ρ ρ (aD X.K (.str i)) := xe_c pe_str fun _ => .str _
theorem xe_non {j : Nat} : XE X (.Constant .none j pos) ρ ρ (aD X.K .none) := xe_c pe_non fun _ => .non
theorem xe_gInt {x : Str} {i : Int} {u : Value} (hg : Gl X x) (hm : X.mg x = some u) (r : RelV (.int i) u) (hd : (x == ("__debug__" : Str)) = false := by decide) : XE X (.Name x pos) ρ ρ (aD X.K (.int i)) := xe_c (pe_glob hg hm r hd) fun _ => .int _
/-- a name of the def that holds data -/
theorem xe_nm (i : Nat) {x : Str} {d : PyData} (h : ρ[i]? = some (some (aD X.K d))) (hN : X.N[i]? = some x := by rfl) (hv : Vis X.env.scope x := by first | exact Or.inl rfl | exact Or.inr (Or.inl rfl) | exact Or.inr (Or.inr rfl)) (hd : (x == ("__debug__" : Str)) = false := by decide)
    (hcd : (x == ("__classdict__" : Str)) = false := by decide) : XE X (.Name x pos) ρ ρ (aD X.K d) := fun E T t σ H l st Q k => by
  obtain ⟨G, F, f, cs⟩ := st
  obtain ⟨v, F1, F2, e1, e2, ⟨q, e3⟩, c2⟩ := cs.slot l h
  exact wE.of (pe_var hN hv hd hcd) ⟨v, e1, k v H (ST.put f cs q)⟩
theorem xe_nmA (i : Nat) {x : Str} {A : OA} (h : ρ[i]? = some (some A)) (hA : ∀ G H v F, A.P G H v F → F = []) (hN : X.N[i]? = some x := by rfl) (hv : Vis X.env.scope x := by first | exact Or.inl rfl | exact Or.inr (Or.inl rfl) | exact Or.inr (Or.inr rfl)) (hd : (x == ("__debug__" : Str)) = false := by decide)
    (hcd : (x == ("__classdict__" : Str)) = false := by decide) : XE X (.Name x pos) ρ ρ A := fun E T t σ H l st Q k => by
  obtain ⟨G, F, f, cs⟩ := st
  obtain ⟨v, F1, F2, e1, e2, q, c2⟩ := cs.slot l h
  have e3 := hA _ _ _ _ q
  subst e3
  exact wE.of (pe_var hN hv hd hcd) ⟨v, e1, k v H ⟨G, F, f, v, [], F, rfl, rfl, q, cs⟩⟩
theorem xe_nmR (i : Nat) {x : Str} {ds : List PyData} (h : ρ[i]? = some (some (aR X.K ds))) (hN : X.N[i]? = some x := by rfl) (hv : Vis X.env.scope x := by first | exact Or.inl rfl | exact Or.inr (Or.inl rfl) | exact Or.inr (Or.inr rfl)) (hd : (x == ("__debug__" : Str)) = false := by decide)
    (hcd : (x == ("__classdict__" : Str)) = false := by decide) : XE X (.Name x pos) ρ ρ (aR X.K ds) := xe_nmA i h (fun _ _ _ _ q => q.2) hN hv hd hcd
/-- a name of the def that holds an owned thing: its value -/
theorem xe_nmV (i : Nat) {x : Str} {v0 : V} {A : OA} (h : ρ[i]? = some (some (pin v0 A))) (hN : X.N[i]? = some x := by rfl) (hv : Vis X.env.scope x := by first | exact Or.inl rfl | exact Or.inr (Or.inl rfl) | exact Or.inr (Or.inr rfl)) (hd : (x == ("__debug__" : Str)) = false := by decide)
    (hcd : (x == ("__classdict__" : Str)) = false := by decide) : XE X (.Name x pos) ρ ρ (aV v0) := fun E T t σ H l st Q k => by
  obtain ⟨G, F, f, cs⟩ := st
  obtain ⟨v, F1, F2, e1, e2, ⟨e0, q⟩, c2⟩ := cs.slot l h
  subst e0
  exact wE.of (pe_var hN hv hd hcd) ⟨v, e1, k v H ⟨G, F, f, v, [], F, rfl, rfl, ⟨rfl, rfl⟩, cs⟩⟩

/-! ### operators -/
theorem xe_op {op : Operator} {r : R2} {d1 d2 d : PyData} (ho : OpR X (binaryOp op) r) (ha : XE X a ρ ρ1 (aD X.K d1)) (hb : XE X b ρ1 ρ2 (aD X.K d2))
    (hr : ∀ G H x y Q, Ex G H → Dq X.K G x d1 → Dq X.K G y d2 → (∀ z, Dq X.K G z d → Q z H) → r x y H Q) : XE X (.BinOp a op b pos) ρ ρ2 (aD X.K d) := fun E T t σ H l st Q k =>
  wE.of (pe_op ho peS peS) (ha E T t σ H l st _ fun x H1 st1 => hb E (_ :: T) (_ :: t) σ H1 (by simp [l]) st1 _ fun y H2 st2 => by
    obtain ⟨G, F, f, cs, q1, q2⟩ := ST.top2 st2
    exact hr G H2 x y Q f.gh q1 q2 fun z q => k z H2 (ST.put f cs q))
theorem xe_opI {op : Operator} {C : Int → Int → Prop} {g : Int → Int → Int} {i j : Int} (ho : OpR X (binaryOp op) (rI C fun i j => .int (g i j))) (ha : XE X a ρ ρ1 (aD X.K (.int i))) (hb : XE X b ρ1 ρ2 (aD X.K (.int j))) (hc : C i j) : XE X (.BinOp a op b pos) ρ ρ2 (aD X.K (.int (g i j))) :=
  xe_op ho ha hb fun G H x y Q _ q1 q2 k => by
    cases q1
    cases q2
    exact ⟨i, j, rfl, rfl, hc, k _ (.int _)⟩
theorem xe_opI0 {op : Operator} {g : Int → Int → Int} {i j : Int} (ho : OpR X (binaryOp op) (rI0 fun i j => .int (g i j))) (ha : XE X a ρ ρ1 (aD X.K (.int i))) (hb : XE X b ρ1 ρ2 (aD X.K (.int j))) : XE X (.BinOp a op b pos) ρ ρ2 (aD X.K (.int (g i j))) :=
  xe_op ho ha hb fun G H x y Q _ q1 q2 k => by
    cases q1
    cases q2
    exact ⟨i, j, rfl, rfl, k _ (.int _)⟩
variable {i j : Int}
theorem xe_add (ha : XE X a ρ ρ1 (aD X.K (.int i))) (hb : XE X b ρ1 ρ2 (aD X.K (.int j))) : XE X (.BinOp a .Add b pos) ρ ρ2 (aD X.K (.int (i + j))) := xe_opI0 op_add ha hb
theorem xe_sub (ha : XE X a ρ ρ1 (aD X.K (.int i))) (hb : XE X b ρ1 ρ2 (aD X.K (.int j))) : XE X (.BinOp a .Sub b pos) ρ ρ2 (aD X.K (.int (i - j))) := xe_opI0 op_sub ha hb
def MulOk (i j : Int) : Prop := (-(2 ^ 64) < i ∧ i < 2 ^ 64) ∨ (-(2 ^ 64) < j ∧ j < 2 ^ 64)
instance (i j : Int) : Decidable (MulOk i j) := by unfold MulOk; exact inferInstance
theorem mulL (i : Int) (h : -(2 ^ 64) < i ∧ i < 2 ^ 64 := by decide) {j : Int} : MulOk i j := .inl h
theorem mulR (j : Int) (h : -(2 ^ 64) < j ∧ j < 2 ^ 64 := by decide) {i : Int} : MulOk i j := .inr h
theorem xe_mul (hc : MulOk i j) (ha : XE X a ρ ρ1 (aD X.K (.int i))) (hb : XE X b ρ1 ρ2 (aD X.K (.int j))) : XE X (.BinOp a .Mult b pos) ρ ρ2 (aD X.K (.int (i * j))) := xe_opI op_mul ha hb hc
/-- //, % by a positive number below 2 ^ 64 -/
def DivOk (j : Int) : Prop := 0 < j ∧ j < 2 ^ 64
instance (j : Int) : Decidable (DivOk j) := by unfold DivOk; exact inferInstance
theorem DivOk.w {i j : Int} (h : DivOk j) : CDivW i j := wide_div (b := 64) h.1 (by have := h.2; have := h.1; omega) (by decide) (by decide)
theorem xe_div (hc : DivOk j) (ha : XE X a ρ ρ1 (aD X.K (.int i))) (hb : XE X b ρ1 ρ2 (aD X.K (.int j))) : XE X (.BinOp a .FloorDiv b pos) ρ ρ2 (aD X.K (.int (i / j))) := xe_opI op_fdivW ha hb hc.w
theorem xe_mod (hc : 0 < j) (ha : XE X a ρ ρ1 (aD X.K (.int i))) (hb : XE X b ρ1 ρ2 (aD X.K (.int j))) : XE X (.BinOp a .Mod b pos) ρ ρ2 (aD X.K (.int (i % j))) := xe_opI op_mod ha hb hc
def PowOk (i j : Int) : Prop := 0 ≤ j ∧ j ≤ 1000000 ∧ i.natAbs < 2 ^ 64
instance (i j : Int) : Decidable (PowOk i j) := by unfold PowOk; exact inferInstance
theorem xe_pow (hc : PowOk i j) (ha : XE X a ρ ρ1 (aD X.K (.int i))) (hb : XE X b ρ1 ρ2 (aD X.K (.int j))) : XE X (.BinOp a .Pow b pos) ρ ρ2 (aD X.K (.int (i ^ j.toNat))) := xe_opI op_pow ha hb hc
theorem xe_shl (hc : PowOk i j) (ha : XE X a ρ ρ1 (aD X.K (.int i))) (hb : XE X b ρ1 ρ2 (aD X.K (.int j))) : XE X (.BinOp a .LShift b pos) ρ ρ2 (aD X.K (.int (i * 2 ^ j.toNat))) := xe_opI (g := fun i j => i * 2 ^ j.toNat) op_shl ha hb hc
theorem xe_shr (hc : 0 ≤ j) (ha : XE X a ρ ρ1 (aD X.K (.int i))) (hb : XE X b ρ1 ρ2 (aD X.K (.int j))) : XE X (.BinOp a .RShift b pos) ρ ρ2 (aD X.K (.int (i / 2 ^ j.toNat))) := xe_opI (C := fun _ j => 0 ≤ j) (g := fun i j => i / 2 ^ j.toNat) op_shr ha hb hc
theorem xe_xor (ha : XE X a ρ ρ1 (aD X.K (.int i))) (hb : XE X b ρ1 ρ2 (aD X.K (.int j))) : XE X (.BinOp a .BitXor b pos) ρ ρ2 (aD X.K (.int (Builtin.bitXor i j))) := xe_opI0 op_xor ha hb
theorem xe_neg (ha : XE X a ρ ρ1 (aD X.K (.int i))) : XE X (.UnaryOp .USub a pos) ρ ρ1 (aD X.K (.int (-i))) := fun E T t σ H l st Q k =>
  wE.of (pe_un un_neg peS) (ha E T t σ H l st _ fun x H1 st1 => by
    obtain ⟨G, F, f, cs, q⟩ := ST.top st1
    cases q
    exact ⟨i, rfl, k _ H1 (ST.put f cs (.int _))⟩)

/-! ### comparisons -/
/-- a comparison, as a value and as a test -/
def XKm (X : Cx) (e : Expr) (ρ ρ' : Cl) (k : Bool) : Prop := ∃ t : TE, PE X e t ∧ PT X e (tTest t) ∧ ∀ (E : Ent) (T : Cl) (t' σ : L2.St) (H : Hp), T.length = t'.length → ST E (T ++ ρ) (t' ++ σ) H →
  ∀ Q : VK, (∀ v H', ST E (some (aD X.K (.bool k)) :: (T ++ ρ')) (some v :: (t' ++ σ)) H' → Q v H') → t σ H Q
theorem xe_k {k : Bool} (h : XKm X a ρ ρ1 k) : XE X a ρ ρ1 (aD X.K (.bool k)) := fun E T t σ H l st Q kk => by
  obtain ⟨t0, h1, h2, h3⟩ := h
  exact wE.of h1 (h3 E T t σ H l st Q kk)
theorem xt_k {k : Bool} (h : XKm X a ρ ρ1 k) : XT X a ρ ρ1 k := fun E T t σ H l st Q kk => by
  obtain ⟨t0, h1, h2, h3⟩ := h
  exact wT.of h2 (h3 E T t σ H l st _ fun v H1 st1 => by
    obtain ⟨G, F, f, cs, q⟩ := ST.top st1
    cases q
    exact ⟨k, rfl, kk H1 ⟨G, F, f, cs⟩⟩)
theorem xk_cmp {op : CmpOp} {r : R2} {d1 d2 : PyData} {k : Bool} (ho : OpR X (compareOp op) r) (hm : behindInMarks op b = false) (ha : XE X a ρ ρ1 (aD X.K d1)) (hb : XE X b ρ1 ρ2 (aD X.K d2))
    (hr : ∀ G H x y Q, Ex G H → Dq X.K G x d1 → Dq X.K G y d2 → (∀ z, Dq X.K G z (.bool k) → Q z H) → r x y H Q) : XKm X (.Compare a [op] [b] pos) ρ ρ2 k :=
  ⟨_, pe_cmpR ho peS peS hm, pt_cmpR ho peS peS hm, fun E T t σ H l st Q kk => ha E T t σ H l st _ fun x H1 st1 => hb E (_ :: T) (_ :: t) σ H1 (by simp [l]) st1 _ fun y H2 st2 => by
    obtain ⟨G, F, f, cs, q1, q2⟩ := ST.top2 st2
    exact hr G H2 x y Q f.gh q1 q2 fun z q => kk z H2 (ST.put f cs q)⟩
theorem xk_cmpI {op : CmpOp} {g : Int → Int → Bool} {i j : Int} (ho : OpR X (compareOp op) (rI0 fun i j => .bl (g i j))) (ha : XE X a ρ ρ1 (aD X.K (.int i))) (hb : XE X b ρ1 ρ2 (aD X.K (.int j))) (hm : behindInMarks op b = false) : XKm X (.Compare a [op] [b] pos) ρ ρ2 (g i j) :=
  xk_cmp ho hm ha hb fun G H x y Q _ q1 q2 k => by
    cases q1
    cases q2
    exact ⟨i, j, rfl, rfl, k _ (.bl _)⟩
theorem xk_lt (ha : XE X a ρ ρ1 (aD X.K (.int i))) (hb : XE X b ρ1 ρ2 (aD X.K (.int j))) : XKm X (.Compare a [.Lt] [b] pos) ρ ρ2 (decide (i < j)) := xk_cmpI (g := fun i j => decide (i < j)) op_lt ha hb (nomark _)
theorem xk_le (ha : XE X a ρ ρ1 (aD X.K (.int i))) (hb : XE X b ρ1 ρ2 (aD X.K (.int j))) : XKm X (.Compare a [.LtE] [b] pos) ρ ρ2 (decide (i ≤ j)) := xk_cmpI (g := fun i j => decide (i ≤ j)) op_le ha hb (nomark _)
theorem xk_gt (ha : XE X a ρ ρ1 (aD X.K (.int i))) (hb : XE X b ρ1 ρ2 (aD X.K (.int j))) : XKm X (.Compare a [.Gt] [b] pos) ρ ρ2 (decide (j < i)) := xk_cmpI (g := fun i j => decide (j < i)) op_gt ha hb (nomark _)
theorem xk_ge (ha : XE X a ρ ρ1 (aD X.K (.int i))) (hb : XE X b ρ1 ρ2 (aD X.K (.int j))) : XKm X (.Compare a [.GtE] [b] pos) ρ ρ2 (decide (j ≤ i)) := xk_cmpI (g := fun i j => decide (j ≤ i)) op_ge ha hb (nomark _)
end
end Mr

set_option Elab.async false
set_option linter.all false
set_option maxRecDepth 100000
namespace Mr
open PySem PySem.Spec PyProof.Rows L2

/-! ### how a thing is read -/
/-- A, where ρ is known, reads as data | as a list whose items stay | a list that is tracked | a tuple | a thing with a length -/
def Rda (K : PySem.W.Frag) (ρ : Cl) (A : OA) (d : PyData) : Prop := ∀ {G H : Hp} {T : Cl} {t σ : L2.St} {F Fv : List Addr} {v : V}, T.length = t.length → Cs G H (T ++ ρ) (t ++ σ) F → Ex G H → A.P G H v Fv → Dp K H v d
def Rls (K : PySem.W.Frag) (ρ : Cl) (A : OA) (ds : List PyData) : Prop := ∀ {G H : Hp} {T : Cl} {t σ : L2.St} {F Fv : List Addr} {v : V}, T.length = t.length → Cs G H (T ++ ρ) (t ++ σ) F → Ex G H → A.P G H v Fv → ∃ a xs, v = .ref a ∧ SqL K H a xs ∧ DqAll K G xs ds
def Rlm (K : PySem.W.Frag) (ρ : Cl) (A : OA) (ds : List PyData) : Prop := ∀ {G H : Hp} {T : Cl} {t σ : L2.St} {F Fv : List Addr} {v : V}, T.length = t.length → Cs G H (T ++ ρ) (t ++ σ) F → Ex G H → A.P G H v Fv → ∃ a xs, v = .ref a ∧ H a = some (.lst xs) ∧ DqAll K G xs ds
def Rtu (K : PySem.W.Frag) (ρ : Cl) (A : OA) (ds : List PyData) : Prop := ∀ {G H : Hp} {T : Cl} {t σ : L2.St} {F Fv : List Addr} {v : V}, T.length = t.length → Cs G H (T ++ ρ) (t ++ σ) F → Ex G H → A.P G H v Fv → ∃ a xs, v = .ref a ∧ SqT K H a xs ∧ DqAll K G xs ds
def Rsq (K : PySem.W.Frag) (ρ : Cl) (A : OA) (n : Nat) : Prop := ∀ {G H : Hp} {T : Cl} {t σ : L2.St} {F Fv : List Addr} {v : V}, T.length = t.length → Cs G H (T ++ ρ) (t ++ σ) F → Ex G H → A.P G H v Fv → ∃ a xs, v = .ref a ∧ (SqL K H a xs ∨ SqT K H a xs) ∧ xs.length = n
section
variable {K : PySem.W.Frag} {ρ : Cl} {A : OA} {ds : List PyData} {d : PyData}
theorem Rlm.ls (h : Rlm K ρ A ds) : Rls K ρ A ds := fun l c e p => by
  obtain ⟨a, xs, e1, e2, e3⟩ := h l c e p
  exact ⟨a, xs, e1, .inl (.inl e2), e3⟩
theorem Rls.da (h : Rls K ρ A ds) : Rda K ρ A (.list ds) := fun l c e p => by
  obtain ⟨a, xs, e1, e2, e3⟩ := h l c e p
  subst e1
  exact .lst e2 (DqAll.dp _ _ (DqAll.mono e _ _ e3))
theorem Rls.sq (h : Rls K ρ A ds) : Rsq K ρ A ds.length := fun l c e p => by
  obtain ⟨a, xs, e1, e2, e3⟩ := h l c e p
  exact ⟨a, xs, e1, .inl e2, e3.len⟩
theorem Rtu.da (h : Rtu K ρ A ds) : Rda K ρ A (.tuple ds) := fun l c e p => by
  obtain ⟨a, xs, e1, e2, e3⟩ := h l c e p
  subst e1
  exact .tup e2 (DqAll.dp _ _ (DqAll.mono e _ _ e3))
theorem Rtu.sq (h : Rtu K ρ A ds) : Rsq K ρ A ds.length := fun l c e p => by
  obtain ⟨a, xs, e1, e2, e3⟩ := h l c e p
  exact ⟨a, xs, e1, .inr e2, e3.len⟩
theorem Rlm.da (h : Rlm K ρ A ds) : Rda K ρ A (.list ds) := Rls.da (Rlm.ls h)
theorem Rlm.sq (h : Rlm K ρ A ds) : Rsq K ρ A ds.length := Rls.sq (Rlm.ls h)
theorem rdD : Rda K ρ (aD K d) d := fun l c e p => Dq.dp _ _ (Dq.mono e _ _ p.1)
theorem rmD : Rlm K ρ (aD K (.list ds)) ds := fun l c e p => by
  obtain ⟨q, _⟩ := p
  cases q with
  | lst h1 h2 => exact ⟨_, _, rfl, e _ _ h1, h2⟩
theorem rlD : Rls K ρ (aD K (.list ds)) ds := rmD.ls
theorem rtD : Rtu K ρ (aD K (.tuple ds)) ds := fun l c e p => by
  obtain ⟨q, _⟩ := p
  cases q with
  | tup h1 h2 => exact ⟨_, _, rfl, e.st h1, h2⟩
theorem rlR : Rls K ρ (aR K ds) ds := fun l c e p => by
  obtain ⟨⟨a, xs, e1, e2, e3⟩, _⟩ := p
  exact ⟨a, xs, e1, e.sl e2, e3⟩
theorem rmL : Rlm K ρ (aLD K ds) ds := fun l c e p => by
  obtain ⟨p, vs, F', e1, e2, h1, c1⟩ := p
  obtain ⟨q1, q2⟩ := csD c1
  exact ⟨p, vs, e1, h1, q1⟩
theorem rmO (i : Nat) {v0 : V} (h : ρ[i]? = some (some (pin v0 (aLD K ds)))) : Rlm K ρ (aV v0) ds := fun l c e p => by
  obtain ⟨e0, _⟩ := p
  obtain ⟨v, F1, F2, e1, e2, ⟨e3, q⟩, c2⟩ := c.slot l h
  subst e0 e3
  exact rmL l c e q
/-- an owned list of whatever: its length -/
theorem rsL {As : List OA} : Rsq K ρ (aL As) As.length := fun l c e p => by
  obtain ⟨p, vs, F', e1, e2, h1, c1⟩ := p
  have := c1.len
  exact ⟨p, vs, e1, .inl (.inl (.inl h1)), by simpa using this.symm⟩
theorem rsO (i : Nat) {v0 : V} {As : List OA} (h : ρ[i]? = some (some (pin v0 (aL As)))) : Rsq K ρ (aV v0) As.length := fun l c e p => by
  obtain ⟨e0, _⟩ := p
  obtain ⟨v, F1, F2, e1, e2, ⟨e3, q⟩, c2⟩ := c.slot l h
  subst e0 e3
  exact rsL l c e q
end

/-! ### two things, one thing on the top -/
theorem ST.two {E : Ent} {A B : OA} {L : Cl} {C : L2.St} {H : Hp} {v w : V} (h : ST E (some B :: some A :: L) (some w :: some v :: C) H) : ∃ G F Fv Fw, Frm E G H F ∧ Cs G H L C F ∧ A.P G H v Fv ∧ B.P G H w Fw := by
  obtain ⟨G, F, f, w', F1, F2, e1, e2, b, v', F3, F4, e3, e4, a, c⟩ := h
  cases e1
  cases e3
  subst e2 e4
  exact ⟨G, F4, F3, F1, f.less ((List.sublist_append_right _ _).trans (List.sublist_append_right _ _)), c, a, b⟩
theorem ST.one {E : Ent} {A : OA} {L : Cl} {C : L2.St} {H : Hp} {v : V} (h : ST E (some A :: L) (some v :: C) H) : ∃ G F Fv, Frm E G H F ∧ Cs G H L C F ∧ A.P G H v Fv := by
  obtain ⟨G, F, f, w', F1, F2, e1, e2, b, c⟩ := h
  cases e1
  subst e2
  exact ⟨G, F2, F1, f.less (List.sublist_append_right _ _), c, b⟩
/-- a new owned list of data on the top -/
theorem ST.newL {E : Ent} {K : PySem.W.Frag} {L : Cl} {C : L2.St} {G H : Hp} {F : List Addr} {p : Addr} {vs : List V} {ds : List PyData} (f : Frm E G H F) (c : Cs G H L C F) (n : H p = none) (q : DqAll K G vs ds) : ST E (some (aLD K ds) :: L) (some (.ref p) :: C) (upd H p (.lst vs)) := by
  obtain ⟨f1, st⟩ := f.step (Fa := []) (Fr := F) (by simp) (Frm.alloc (o := .lst vs) f.gh n)
  have c1 : Cs G (upd H p (.lst vs)) L C F := c.mono (.refl _) f1.gh st
  exact ⟨G, _, f1, .ref p, [p], F, rfl, rfl, ⟨p, vs, [], rfl, rfl, upd_same, csD' q⟩, c1⟩
/-- a new tuple of data -/
theorem ST.newT {E : Ent} {K : PySem.W.Frag} {L : Cl} {C : L2.St} {G H : Hp} {F : List Addr} {p : Addr} {vs : List V} {ds : List PyData} (f : Frm E G H F) (c : Cs G H L C F) (n : H p = none) (q : DqAll K G vs ds) : ST E (some (aD K (.tuple ds)) :: L) (some (.ref p) :: C) (upd H p (.tup vs)) := by
  obtain ⟨f1, st⟩ := f.step (Fa := []) (Fr := F) (by simp) (Frm.allocG (o := .tup vs) f.gh n)
  have c1 : Cs (upd G p (.tup vs)) (upd H p (.tup vs)) L C F := c.mono (Ex.new (by
    cases q : G p with
    | none => rfl
    | some u => rw [f.gh p u q] at n; cases n)) f1.gh st
  refine ⟨_, _, f1, .ref p, [], F, rfl, rfl, ⟨.tup (.inl (.inl upd_same)) (DqAll.mono (Ex.new ?_) _ _ q), rfl⟩, by simpa using c1⟩
  cases q : G p with
  | none => rfl
  | some u => rw [f.gh p u q] at n; cases n

section
variable {X : Cx} {ρ ρ1 ρ2 ρ3 : Cl} {a b c : Expr} {pos : Pos} {A B : OA} {d d1 d2 : PyData} {ds es : List PyData}
/-- an owned list that is not changed any more -/
theorem xe_frz (h : XE X a ρ ρ1 (aLD X.K ds)) : XE X a ρ ρ1 (aD X.K (.list ds)) := fun E T t σ H l st Q k => h E T t σ H l st Q fun v H' st1 => by
  obtain ⟨G, F, f, w, F1, F2, e1, e2, ⟨p, vs, F', e3, e4, h1, c1⟩, cs⟩ := st1
  obtain ⟨q1, q2⟩ := csD c1
  cases e1
  subst e2 e3 e4 q2
  have g : G p = none := f.dis p (by simp)
  obtain ⟨f1, st⟩ := f.step (Fa := [p]) (Fr := F2) (by simp) (Frm.freeze f.gh g h1)
  exact k _ _ ⟨_, _, f1, .ref p, [], F2, rfl, rfl, ⟨.lst upd_same (DqAll.mono (.new g) _ _ q1), rfl⟩, by simpa using cs.mono (.new g) f1.gh st⟩
/-- the same thing, said otherwise -/
theorem xe_is (h : XE X a ρ ρ1 A) (e : A = B) : XE X a ρ ρ1 B := e ▸ h
theorem xe_isD (h : XE X a ρ ρ1 (aD X.K d)) (e : d = d1) : XE X a ρ ρ1 (aD X.K d1) := e ▸ h

theorem xk_eqD {op : CmpOp} {neg : Bool} {k : Bool} (ho : OpR X (compareOp op) (fun x y H Q => ∃ d e, Dp X.K H x d ∧ Dp X.K H y e ∧ SeqAt.shaped d = true ∧ SeqAt.shaped e = true ∧ Q (.bl (if neg then !PyData.eqv d e else PyData.eqv d e)) H)) (hm : behindInMarks op b = false)
    (ha : XE X a ρ ρ1 A) (hb : XE X b ρ1 ρ2 B) (ra : Rda X.K ρ2 A d1) (rb : Rda X.K ρ2 B d2) (s1 : SeqAt.shaped d1 = true) (s2 : SeqAt.shaped d2 = true) (he : PyData.eqv d1 d2 = k) : XKm X (.Compare a [op] [b] pos) ρ ρ2 (if neg then !k else k) :=
  ⟨_, pe_cmpR ho peS peS hm, pt_cmpR ho peS peS hm, fun E T t σ H l st Q kk => ha E T t σ H l st _ fun x H1 st1 => hb E (_ :: T) (_ :: t) σ H1 (by simp [l]) st1 _ fun y H2 st2 => by
    obtain ⟨G, F, Fv, Fw, f, cs, q1, q2⟩ := ST.two st2
    refine ⟨d1, d2, ra l cs f.gh q1, rb l cs f.gh q2, s1, s2, ?_⟩
    rw [he]
    exact kk _ H2 (ST.put f cs (.bl _))⟩
theorem xk_eq {k : Bool} (hu : X.A.units + 64 < cLine) (ha : XE X a ρ ρ1 A) (hb : XE X b ρ1 ρ2 B) (ra : Rda X.K ρ2 A d1) (rb : Rda X.K ρ2 B d2) (s1 : SeqAt.shaped d1 = true) (s2 : SeqAt.shaped d2 = true) (he : PyData.eqv d1 d2 = k) : XKm X (.Compare a [.Eq] [b] pos) ρ ρ2 k :=
  xk_eqD (neg := false) (op_eqD hu) (nomark _) ha hb ra rb s1 s2 he
theorem xk_ne {k : Bool} (hu : X.A.units + 64 < cLine) (ha : XE X a ρ ρ1 A) (hb : XE X b ρ1 ρ2 B) (ra : Rda X.K ρ2 A d1) (rb : Rda X.K ρ2 B d2) (s1 : SeqAt.shaped d1 = true) (s2 : SeqAt.shaped d2 = true) (he : PyData.eqv d1 d2 = k) : XKm X (.Compare a [.NotEq] [b] pos) ρ ρ2 (!k) :=
  xk_eqD (neg := true) (op_neD hu) (nomark _) ha hb ra rb s1 s2 he
def isN : PyData → Bool
  | .none => true
  | _ => false
theorem Dq.isN {K : PySem.W.Frag} {G : Hp} {v : V} (h : Dq K G v d) : decide (v = V.non) = Mr.isN d := by
  cases h <;> rfl
theorem xk_isNone {k : Bool} {j : Nat} {p' : Pos} (ha : XE X a ρ ρ1 (aD X.K d)) (hk : isN d = k) : XKm X (.Compare a [.Is] [.Constant .none j p'] pos) ρ ρ1 k :=
  ⟨_, pe_cmpR op_isN peS pe_non (nomark _), pt_cmpR op_isN peS pe_non (nomark _), fun E T t σ H l st Q kk => ha E T t σ H l st _ fun x H1 st1 => by
    obtain ⟨G, F, f, cs, q⟩ := ST.top st1
    refine ⟨rfl, ?_⟩
    rw [q.isN, hk]
    exact kk _ H1 (ST.put f cs (.bl _))⟩
theorem xk_notNone {k : Bool} {j : Nat} {p' : Pos} (ha : XE X a ρ ρ1 (aD X.K d)) (hk : isN d = k) : XKm X (.Compare a [.IsNot] [.Constant .none j p'] pos) ρ ρ1 (!k) :=
  ⟨_, pe_cmpR op_notN peS pe_non (nomark _), pt_cmpR op_notN peS pe_non (nomark _), fun E T t σ H l st Q kk => ha E T t σ H l st _ fun x H1 st1 => by
    obtain ⟨G, F, f, cs, q⟩ := ST.top st1
    refine ⟨rfl, ?_⟩
    rw [q.isN, hk]
    exact kk _ H1 (ST.put f cs (.bl _))⟩
/-- a chain of two comparisons of ints -/
theorem xk_chain {op op' : CmpOp} {g g' : Int → Int → Bool} {i j k : Int} (ho : OpR X (compareOp op) (rI0 fun i j => .bl (g i j))) (ho' : OpR X (compareOp op') (rI0 fun i j => .bl (g' i j))) (hm : lastMarks [op, op'] [b, c] = false)
    (ha : XE X a ρ ρ (aD X.K (.int i))) (hb : XE X b ρ ρ (aD X.K (.int j))) (hc : g i j = true → XE X c ρ ρ (aD X.K (.int k))) {r : Bool} (hres : (g i j && g' j k) = r) : XKm X (.Compare a [op, op'] [b, c] pos) ρ ρ r :=
  ⟨_, pe_chain ho ho' peS peS peS hm, pt_chain ho ho' peS peS peS hm, fun E T t σ H l st Q kk => by
   subst hres
   exact ha E T t σ H l st _ fun x H1 st1 => hb E (_ :: T) (_ :: t) σ H1 (by simp [l]) st1 _ fun y H2 st2 => by
    obtain ⟨G, F, f, cs, q1, q2⟩ := ST.top2 st2
    cases q1
    cases q2
    refine ⟨i, j, rfl, rfl, g i j, rfl, ?_⟩
    cases hg : g i j with
    | false =>
      rw [hg] at kk
      exact kk _ H2 (ST.put f cs (show Dq X.K G (.bl false) (.bool false) from .bl _))
    | true =>
      rw [hg] at kk
      refine hc hg E T t σ H2 l ⟨G, F, f, cs⟩ _ fun z H3 st3 => ?_
      obtain ⟨G, F, f, cs, q⟩ := ST.top st3
      cases q
      exact ⟨j, k, rfl, rfl, kk _ H3 (ST.put f cs (show Dq X.K G (.bl (g' j k)) (.bool (g' j k)) from .bl _))⟩⟩

/-! ### tests -/
theorem xt_v {k : Bool} (h : XE X a ρ ρ1 (aD X.K (.bool k))) (he : ∀ whole, isTrue a X.env whole = (do let v ← whole; standAt a.pos; holding [v] (truthy v)) := by intro _; rfl) : XT X a ρ ρ1 k := fun E T t σ H l st Q kk =>
  wT.of (pt_val peS he) (h E T t σ H l st _ fun x H1 st1 => by
    obtain ⟨G, F, f, cs, q⟩ := ST.top st1
    cases q
    exact ⟨k, rfl, kk H1 ⟨G, F, f, cs⟩⟩)
theorem xt_not {k : Bool} (h : XT X a ρ ρ1 k) : XT X (.UnaryOp .Not a pos) ρ ρ1 (!k) := fun E T t σ H l st Q kk => wT.of (pt_not ptS) (h E T t σ H l st _ fun H1 st1 => kk H1 st1)
theorem xt_w {k : Bool} (h : XW X a ρ ρ1 k) : XT X a ρ ρ1 k := fun E T t σ H l st Q kk => wT.of (PW.pt pwS) (h E T t σ H l st Q kk)
theorem xw_and1 {k : Bool} (h : XT X a ρ ρ1 k) : XW X (.BoolOp .And [a] pos) ρ ρ1 k := fun E T t σ H l st Q kk => wW.of (pw_and1 ptS) (h E T t σ H l st Q kk)
theorem xw_or1 {k : Bool} (h : XT X a ρ ρ1 k) : XW X (.BoolOp .Or [a] pos) ρ ρ1 k := fun E T t σ H l st Q kk => wW.of (pw_or1 ptS) (h E T t σ H l st Q kk)
theorem xw_and {k k2 : Bool} {rest : List Expr} (h : XT X a ρ ρ k) (h2 : k = true → XW X (.BoolOp .And (b :: rest) pos) ρ ρ k2) : XW X (.BoolOp .And (a :: b :: rest) pos) ρ ρ (k && k2) := fun E T t σ H l st Q kk => wW.of (pw_and ptS pwS) (h E T t σ H l st _ fun H1 st1 => by
  cases k with
  | true => exact h2 rfl E T t σ H1 l st1 Q kk
  | false => exact kk H1 st1)
theorem xw_or {k k2 : Bool} {rest : List Expr} (h : XT X a ρ ρ k) (h2 : k = false → XW X (.BoolOp .Or (b :: rest) pos) ρ ρ k2) : XW X (.BoolOp .Or (a :: b :: rest) pos) ρ ρ (k || k2) := fun E T t σ H l st Q kk => wW.of (pw_or ptS pwS) (h E T t σ H l st _ fun H1 st1 => by
  cases k with
  | false => exact h2 rfl E T t σ H1 l st1 Q kk
  | true => exact kk H1 st1)
/-- the truth of a list -/
theorem xt_list {n : Nat} (h : XE X a ρ ρ1 A) (r : Rsq X.K ρ1 A n) (hl : Rls X.K ρ1 A ds) (he : ∀ whole, isTrue a X.env whole = (do let v ← whole; standAt a.pos; holding [v] (truthy v)) := by intro _; rfl) : XT X a ρ ρ1 (!ds.isEmpty) := fun E T t σ H l st Q kk =>
  wT.of (pt_truth peS he) (h E T t σ H l st _ fun x H1 st1 => by
    obtain ⟨G, F, Fv, f, cs, q⟩ := ST.one st1
    obtain ⟨p, xs, e1, e2, e3⟩ := hl l cs f.gh q
    subst e1
    refine ⟨!ds.isEmpty, .inl ⟨xs, e2, ?_⟩, kk H1 ⟨G, F, f, cs⟩⟩
    have := e3.len
    cases xs <;> cases ds <;> simp_all)
/-- bools as values -/
theorem xe_not {k : Bool} (h : XE X a ρ ρ1 (aD X.K (.bool k))) : XE X (.UnaryOp .Not a pos) ρ ρ1 (aD X.K (.bool (!k))) := fun E T t σ H l st Q kk => wE.of (pe_not peS) (h E T t σ H l st _ fun x H1 st1 => by
  obtain ⟨G, F, f, cs, q⟩ := ST.top st1
  cases q
  exact ⟨k, rfl, kk _ H1 (ST.put f cs (.bl _))⟩)
theorem xe_one {op : BoolOp} (h : XE X a ρ ρ1 A) : XE X (.BoolOp op [a] pos) ρ ρ1 A := fun E T t σ H l st Q kk => wE.of (pe_one peS) (h E T t σ H l st Q kk)
theorem xe_and {k k2 : Bool} {rest : List Expr} (h : XE X a ρ ρ (aD X.K (.bool k))) (h2 : k = true → XE X (.BoolOp .And (b :: rest) pos) ρ ρ (aD X.K (.bool k2))) : XE X (.BoolOp .And (a :: b :: rest) pos) ρ ρ (aD X.K (.bool (k && k2))) := fun E T t σ H l st Q kk => wE.of (pe_and peS peS) (h E T t σ H l st _ fun x H1 st1 => by
  obtain ⟨G, F, f, cs, q⟩ := ST.top st1
  cases q
  refine ⟨k, rfl, ?_⟩
  cases k with
  | true => exact h2 rfl E T t σ H1 l ⟨G, F, f, cs⟩ Q kk
  | false => exact kk _ H1 (ST.put f cs (.bl _)))
theorem xe_or {k k2 : Bool} {rest : List Expr} (h : XE X a ρ ρ (aD X.K (.bool k))) (h2 : k = false → XE X (.BoolOp .Or (b :: rest) pos) ρ ρ (aD X.K (.bool k2))) : XE X (.BoolOp .Or (a :: b :: rest) pos) ρ ρ (aD X.K (.bool (k || k2))) := fun E T t σ H l st Q kk => wE.of (pe_or peS peS) (h E T t σ H l st _ fun x H1 st1 => by
  obtain ⟨G, F, f, cs, q⟩ := ST.top st1
  cases q
  refine ⟨k, rfl, ?_⟩
  cases k with
  | false => exact h2 rfl E T t σ H1 l ⟨G, F, f, cs⟩ Q kk
  | true => exact kk _ H1 (ST.put f cs (.bl _)))
theorem xe_if {k : Bool} (h : XT X c ρ ρ1 k) (h1 : k = true → XE X a ρ1 ρ2 A) (h2 : k = false → XE X b ρ1 ρ2 A) : XE X (.IfExp c a b pos) ρ ρ2 A := fun E T t σ H l st Q kk => wE.of (pe_ifExp ptS peS peS) (h E T t σ H l st _ fun H1 st1 => by
  cases k with
  | true => exact h1 rfl E T t σ H1 l st1 Q kk
  | false => exact h2 rfl E T t σ H1 l st1 Q kk)

/-! ### subscripts, slices, displays -/
theorem atI_dq {K : PySem.W.Frag} {G : Hp} {xs : List V} {i : Int} (h : DqAll K G xs ds) (ha : atI ds i = some d) : ∃ v, atI xs i = some v ∧ Dq K G v d := by
  unfold atI at ha ⊢
  rw [h.len]
  cases hk : ixN ds.length i with
  | none => rw [hk] at ha; cases ha
  | some j =>
    rw [hk] at ha
    exact h.get ha
theorem xe_ix {i : Int} (ha : XE X a ρ ρ1 A) (hb : XE X b ρ1 ρ2 (aD X.K (.int i))) (r : Rls X.K ρ2 A ds) (h : atI ds i = some d) (hs : PlainIx b := by exact fun _ _ => rfl) : XE X (.Subscript a b pos) ρ ρ2 (aD X.K d) := fun E T t σ H l st Q k =>
  wE.of (pe_ix ix_list peS peS hs) (ha E T t σ H l st _ fun x H1 st1 => hb E (_ :: T) (_ :: t) σ H1 (by simp [l]) st1 _ fun y H2 st2 => by
    obtain ⟨G, F, Fv, Fw, f, cs, q1, q2, _⟩ := ST.two st2
    cases q2
    obtain ⟨p, xs, e1, e2, e3⟩ := r l cs f.gh q1
    obtain ⟨v, e4, e5⟩ := atI_dq e3 h
    exact ⟨p, xs, i, v, e1, rfl, e2, e4, k v H2 (ST.put f cs e5)⟩)
theorem xe_ixT {i : Int} (ha : XE X a ρ ρ1 A) (hb : XE X b ρ1 ρ2 (aD X.K (.int i))) (r : Rtu X.K ρ2 A ds) (h : atI ds i = some d) (hs : PlainIx b := by exact fun _ _ => rfl) : XE X (.Subscript a b pos) ρ ρ2 (aD X.K d) := fun E T t σ H l st Q k =>
  wE.of (pe_ix ix_tup peS peS hs) (ha E T t σ H l st _ fun x H1 st1 => hb E (_ :: T) (_ :: t) σ H1 (by simp [l]) st1 _ fun y H2 st2 => by
    obtain ⟨G, F, Fv, Fw, f, cs, q1, q2, _⟩ := ST.two st2
    cases q2
    obtain ⟨p, xs, e1, e2, e3⟩ := r l cs f.gh q1
    obtain ⟨v, e4, e5⟩ := atI_dq e3 h
    exact ⟨p, xs, i, v, e1, rfl, e2, e4, k v H2 (ST.put f cs e5)⟩)
/-- an item of an owned list of mixed things that is data -/
theorem Cs.getD {K : PySem.W.Frag} {G H : Hp} : ∀ {As : List OA} {vs : List V} {F : List Addr} {j : Nat}, Cs G H (As.map some) (vs.map some) F → As[j]? = some (aD K d) → ∃ v, vs[j]? = some v ∧ Dq K G v d := fun {As vs F j} c h => by
  obtain ⟨v, F1, F2, e1, e2, ⟨q, _⟩, c2⟩ := c.split (i := j) (A := aD K d) (by rw [List.getElem?_map, h]; rfl)
  rw [List.getElem?_map] at e1
  cases hv : vs[j]? with
  | none => rw [hv] at e1; cases e1
  | some w =>
    rw [hv] at e1
    cases e1
    exact ⟨v, rfl, q⟩
theorem xe_ixO (i : Nat) {v0 : V} {As : List OA} {j : Nat} {n : Int} (ha : XE X a ρ ρ1 (aV v0)) (hb : XE X b ρ1 ρ2 (aD X.K (.int n))) (hp : ρ2[i]? = some (some (pin v0 (aL As)))) (hn : ixN As.length n = some j) (h : As[j]? = some (aD X.K d)) (hs : PlainIx b := by exact fun _ _ => rfl) :
    XE X (.Subscript a b pos) ρ ρ2 (aD X.K d) := fun E T t σ H l st Q k =>
  wE.of (pe_ix ix_list peS peS hs) (ha E T t σ H l st _ fun x H1 st1 => hb E (_ :: T) (_ :: t) σ H1 (by simp [l]) st1 _ fun y H2 st2 => by
    obtain ⟨G, F, Fv, Fw, f, cs, ⟨q1, _⟩, q2, _⟩ := ST.two st2
    cases q2
    obtain ⟨v, F1, F2, e1, e2, ⟨e3, p, vs, F', e4, e5, h1, c1⟩, c2⟩ := cs.slot l hp
    subst q1 e3 e4
    obtain ⟨w, hw, q⟩ := c1.getD h
    have hl : vs.length = As.length := by simpa using c1.len.symm
    exact ⟨p, vs, n, w, rfl, rfl, .inl (.inl h1), by unfold atI; rw [hl, hn]; exact hw, k w H2 (ST.put f cs q)⟩)
end
/-- xs[lo:hi] -/
def cutL {α : Type} (xs : List α) (lo hi : Option Int) : List α := (xs.drop (HT.sIx xs.length 0 lo)).take (HT.sIx xs.length xs.length hi - HT.sIx xs.length 0 lo)
theorem cutL_map {α β : Type} (f : α → β) (xs : List α) (lo hi : Option Int) : cutL (xs.map f) lo hi = (cutL xs lo hi).map f := by
  unfold cutL
  rw [List.length_map, List.map_take, List.map_drop]
theorem cut_dq {K : PySem.W.Frag} {G : Hp} {vs : List V} {ds : List PyData} (lo hi : Option Int) (h : DqAll K G vs ds) : DqAll K G (cutV vs lo hi) (cutL ds lo hi) := by
  unfold cutV cutL
  rw [h.len]
  exact (h.drop _).take _
def uO (X : Cx) : Option Expr → TO
  | none => tNoPart
  | some e => tPart (wE X e)
theorem uO_po {X : Cx} : ∀ e : Option Expr, PO X e (uO X e)
  | none => po_none
  | some _ => po_some peS
def XO (X : Cx) (e : Option Expr) (ρ ρ' : Cl) (o : Option Int) : Prop := match e, o with
  | none, none => ρ = ρ'
  | some e, some i => XE X e ρ ρ' (aD X.K (.int i))
  | _, _ => False
section
variable {X : Cx} {ρ ρ1 ρ2 ρ3 : Cl} {a b c : Expr} {pos p2 : Pos} {A B : OA} {d d1 d2 : PyData} {ds es : List PyData}
theorem xe_slice {lo hi : Option Expr} {i j : Option Int} (ha : XE X a ρ ρ1 A) (hl : XO X lo ρ1 ρ2 i) (hh : XO X hi ρ2 ρ3 j) (r : Rls X.K ρ3 A ds) : XE X (.Subscript a (.Slice lo hi none p2) pos) ρ ρ3 (aLD X.K (cutL ds i j)) := fun E T t σ H l st Q k => by
  have part : ∀ {o : Option Expr} {n : Option Int} {ρ ρ' : Cl} {x : V} {H2 : Hp} {R : Option Int → Hp → Prop}, XO X o ρ ρ' n → ST E (some A :: (T ++ ρ)) (some x :: (t ++ σ)) H2 → (∀ H3, ST E (some A :: (T ++ ρ')) (some x :: (t ++ σ)) H3 → R n H3) → uO X o σ H2 R := fun {o n ρ ρ' x H2 R} h st k => by
    match o, n, h with
    | none, none, h =>
      cases (show ρ = ρ' from h)
      exact k _ st
    | some e, some n, h =>
      refine (show XE X e ρ ρ' (aD X.K (.int n)) from h) E (_ :: T) (_ :: t) σ H2 (by simp [l]) st _ fun y H3 st3 => ?_
      obtain ⟨G, F, f, cs, q⟩ := ST.top st3
      cases q
      exact ⟨n, rfl, k _ ⟨G, F, f, cs⟩⟩
  refine wE.of (pe_slice sl_list peS (uO_po lo) (uO_po hi)) (ha E T t σ H l st _ fun x H1 st1 => part hl st1 fun H2 st2 => part hh st2 fun H3 st3 => ?_)
  obtain ⟨G, F, Fv, f, cs, q⟩ := ST.one st3
  obtain ⟨p, xs, e1, e2, e3⟩ := r l cs f.gh q
  exact ⟨p, xs, e1, e2, fun p' hp => k _ _ (ST.newL f cs hp (cut_dq i j e3))⟩
/-! ### argument lists -/
theorem xa_nil : XA X [] ρ ρ [] := fun E T t σ H l st Q k => wA.of pa_nil (k [] H rfl st)
theorem xa_cons {es : List Expr} {As : List OA} (h : XE X a ρ ρ1 A) (hr : XA X es ρ1 ρ2 As) (hs : starEach (a :: es) X.env = (false, eval a X.env) :: starEach es X.env := by rfl) : XA X (a :: es) ρ ρ2 (A :: As) := fun E T t σ H l st Q k =>
  wA.of (pa_cons peS paS hs) (h E T t σ H l st _ fun x H1 st1 => hr E (_ :: T) (_ :: t) σ H1 (by simp [l]) st1 _ fun xs H2 hl st2 => by
    refine k (x :: xs) H2 (by simp [hl]) ?_
    obtain ⟨G, F, f, cs⟩ := st2
    obtain ⟨F1, F2, e1, c1, c2⟩ := cs.unappend (by simp [hl])
    obtain ⟨v, F3, F4, e2, e3, p, c3⟩ := c2
    subst e1 e3
    have perm : (F1 ++ (F3 ++ F4)).Perm (F3 ++ (F1 ++ F4)) := by
      rw [← List.append_assoc, ← List.append_assoc]
      exact List.Perm.append_right F4 List.perm_append_comm
    exact ⟨G, _, f.perm perm, v, F3, F1 ++ F4, e2, rfl, p, c1.append c3⟩)
/-- data as arguments -/
theorem ST.args {E : Ent} {K : PySem.W.Frag} {L : Cl} {C : L2.St} {H : Hp} {vs : List V} {ds : List PyData} (hl : vs.length = ds.length) (st : ST E ((ds.map (aD K)).map some ++ L) (vs.map some ++ C) H) : ∃ G F, Frm E G H F ∧ Cs G H L C F ∧ DqAll K G vs ds := by
  obtain ⟨G, F, f, cs⟩ := st
  obtain ⟨F1, F2, e1, c1, c2⟩ := cs.unappend (by simp [hl])
  obtain ⟨q1, q2⟩ := csD c1
  subst e1 q2
  exact ⟨G, F2, by simpa using f, c2, q1⟩
theorem xe_tup {es : List Expr} {x1 : Nat} (h : XA X es ρ ρ1 (ds.map (aD X.K))) (hz : ds.length ≤ 1000) : XE X (.Tuple es x1 pos) ρ ρ1 (aD X.K (.tuple ds)) := fun E T t σ H l st Q k =>
  wE.of (pe_tup paS) (h E T t σ H l st _ fun vs H1 hl st1 => by
    have hl' : vs.length = ds.length := by simpa using hl
    obtain ⟨G, F, f, cs, q⟩ := ST.args hl' st1
    exact ⟨by rw [hl']; exact Nat.le_trans hz (by decide), fun p hp => k _ _ (ST.newT f cs hp q)⟩)
theorem xe_lst {es : List Expr} {As : List OA} (h : XA X es ρ ρ1 As) (hz : As.length ≤ 1000) : XE X (.List es pos) ρ ρ1 (aL As) := fun E T t σ H l st Q k =>
  wE.of (pe_lst paS) (h E T t σ H l st _ fun vs H1 hl st1 => by
    refine ⟨by rw [hl]; exact Nat.le_trans hz (by decide), fun p hp => k _ _ ?_⟩
    obtain ⟨G, F, f, cs⟩ := st1
    obtain ⟨F1, F2, e1, c1, c2⟩ := cs.unappend (by simp [hl])
    subst e1
    obtain ⟨f1, keep⟩ := f.step (Fa := []) (Fr := F1 ++ F2) (by simp) (Frm.alloc (o := .lst vs) f.gh hp)
    have c3 := c1.mono (.refl _) f1.gh fun b hb => keep b (List.mem_append_left _ hb)
    have c4 := c2.mono (.refl _) f1.gh fun b hb => keep b (List.mem_append_right _ hb)
    exact ⟨G, _, f1, .ref p, p :: F1, F2, rfl, by simp, ⟨p, vs, F1, rfl, rfl, upd_same, c3⟩, c4⟩)
theorem xe_cat (ha : XE X a ρ ρ1 A) (hb : XE X b ρ1 ρ2 B) (ra : Rlm X.K ρ2 A ds) (rb : Rlm X.K ρ2 B es) (hz : ds.length + es.length ≤ sizeLine) : XE X (.BinOp a .Add b pos) ρ ρ2 (aLD X.K (ds ++ es)) := fun E T t σ H l st Q k =>
  wE.of (pe_op op_cat peS peS) (ha E T t σ H l st _ fun x H1 st1 => hb E (_ :: T) (_ :: t) σ H1 (by simp [l]) st1 _ fun y H2 st2 => by
    obtain ⟨G, F, Fv, Fw, f, cs, q1, q2⟩ := ST.two st2
    obtain ⟨p, xs, e1, e2, e3⟩ := ra l cs f.gh q1
    obtain ⟨p', ys, e4, e5, e6⟩ := rb l cs f.gh q2
    exact ⟨p, p', xs, ys, e1, e4, e2, e5, by rw [e3.len, e6.len]; exact hz, fun p'' hp => k _ _ (ST.newL f cs hp (e3.append e6))⟩)
theorem dq_rep {K : PySem.W.Frag} {G : Hp} {vs : List V} (h : DqAll K G vs ds) : ∀ n : Nat, DqAll K G (List.replicate n vs).flatten (List.replicate n ds).flatten
  | 0 => .nil
  | n + 1 => by
    rw [List.replicate_succ, List.replicate_succ, List.flatten_cons, List.flatten_cons]
    exact h.append (dq_rep h n)
end
end Mr

set_option Elab.async false
set_option linter.all false
set_option maxRecDepth 100000
namespace Mr
open PySem PySem.Spec PyProof.Rows L2

/-! ### statements -/
section
variable {X : Cx} {ρ ρ1 ρ2 ρ3 : Cl} {a b c e : Expr} {pos p2 : Pos} {A B : OA} {d d1 d2 : PyData} {ds es : List PyData} {st : Stmt} {rest sts : List Stmt} {ω β γ : Type} {m : Option ω} {Φ : ω → Ent → Ends → Prop} {R : γ → Cl} {N : β → Cl}
theorem xg_bind {α : Type} {m1 : Option α} {k : α → Option ω} (h : ∀ x, m1 = some x → XG X sts ρ (k x) Φ) : XG X sts ρ (m1.bind k) Φ := fun o ho => by
  cases hm : m1 with
  | none => rw [hm] at ho; cases ho
  | some x => rw [hm] at ho; exact h x hm o ho
/-- a name for a value -/
def lett {α β : Type} (v : α) (k : α → β) : β := k v
theorem xg_lett {α : Type} {v : α} {k : α → Option ω} (h : ∀ x, v = x → XG X sts ρ (k x) Φ) : XG X sts ρ (lett v k) Φ := h v rfl
theorem xg_wk (w : Wk ρ ρ1) (h : XG X sts ρ1 m Φ) : XG X sts ρ m Φ := fun o ho E σ H D st k => h o ho E σ H D (st.wk w) k
theorem xg_ite {p : Prop} [Decidable p] {m1 m2 : Option ω} (h1 : p → XG X sts ρ m1 Φ) (h2 : ¬ p → XG X sts ρ m2 Φ) : XG X sts ρ (if p then m1 else m2) Φ := by
  by_cases h : p
  · rw [if_pos h]; exact h1 h
  · rw [if_neg h]; exact h2 h
/-- the value of an owned thing is named -/
theorem xg_pin (i : Nat) (h : ρ[i]? = some (some A)) (k : ∀ v, XG X sts (ρ.set i (some (pin v A))) m Φ) : XG X sts ρ m Φ := fun o ho E σ H D st q => by
  obtain ⟨G, F, f, c⟩ := st
  obtain ⟨v, F1, F2, e1, e2, p, c2⟩ := Cs.slot (T := []) (t := []) rfl (by simpa using c) h
  obtain ⟨F3, e3, c3⟩ := Cs.back (T := []) (t := []) (A := pin v A) rfl c2 (lt_of_get h) e1 ⟨rfl, p⟩
  exact k v o ho E σ H D ⟨G, F3, f.perm (e2.trans e3.symm), by simpa using c3⟩ q
/-- at the end -/
theorem xg_nilS {b : β} (w : Wk ρ (N b)) : XG X [] ρ (some b) (oS N) := fun o ho E σ H D st q => by
  cases ho
  exact wS.of pss_nil (q σ H (st.wk w))
theorem xg_nilB {b : β} (w : Wk ρ (N b)) : XG X [] ρ (some (Sum.inr b)) (oB R N) := fun o ho E σ H D st q => by
  cases ho
  exact wS.of pss_nil (q σ H (st.wk w))
theorem xg_ret {r : γ} (h : XE X e ρ ρ1 A) (w : Wk (some A :: ρ1) (R r)) : XG X (.Return (some e) pos :: rest) ρ (some r) (oR R) := fun o ho E σ H D st q => by
  cases ho
  exact wS.of (pss_cons (ps_ret peS) pssS) (h E [] [] σ H rfl st _ fun v H' st1 => q v σ H' (ST.wk st1 w))
theorem xg_retB {r : γ} (h : XE X e ρ ρ1 A) (w : Wk (some A :: ρ1) (R r)) : XG X (.Return (some e) pos :: rest) ρ (some (Sum.inl r)) (oB R N) := fun o ho E σ H D st q => by
  cases ho
  exact wS.of (pss_cons (ps_ret peS) pssS) (h E [] [] σ H rfl st _ fun v H' st1 => q v σ H' (ST.wk st1 w))
theorem ST.putN {E : Ent} (K : PySem.W.Frag) {σ : L2.St} {H : Hp} (h : ST E ρ σ H) : ST E (some (aD K .none) :: ρ) (some .non :: σ) H := by
  obtain ⟨G, F, f, c⟩ := h
  exact ST.put f c .non
theorem xg_retN {r : γ} (w : Wk (some (aD X.K .none) :: ρ) (R r)) : XG X (.Return none pos :: rest) ρ (some r) (oR R) := fun o ho E σ H D st q => by
  cases ho
  exact wS.of (pss_cons ps_retN pssS) (q .non σ H (ST.wk (ST.putN X.K st) w))
theorem xg_retNB {r : γ} (w : Wk (some (aD X.K .none) :: ρ) (R r)) : XG X (.Return none pos :: rest) ρ (some (Sum.inl r)) (oB R N) := fun o ho E σ H D st q => by
  cases ho
  exact wS.of (pss_cons ps_retN pssS) (q .non σ H (ST.wk (ST.putN X.K st) w))
theorem xg_pass (h : XG X rest ρ m Φ) (q : PS X st tNext) : XG X (st :: rest) ρ m Φ := fun o ho E σ H D s1 k => wS.of (pss_cons q pssS) (h o ho E σ H D s1 k)
/-- x = e -/
theorem xg_asg (i : Nat) {x : Str} {pos' : Pos} (he : XE X e ρ ρ1 A) (h : XG X rest (ρ1.set i (some A)) m Φ) (hl : i < ρ1.length := by exact Nat.le_of_ble_eq_true rfl) (hN : X.N.Nodup := by assumption) (hi : X.N[i]? = some x := by rfl) (hx : Loc X.env.scope x := by first | exact .inl rfl | exact .inr rfl)
    (hs : swapsWith e (some (.Name x pos')) pos.line X.env = pure false := by rfl) (hf : X.fn x = true ∨ X.env.scope.names.lookup x = some .local := by first | exact .inl rfl | exact .inr rfl | assumption) : XG X (.Assign [.Name x pos'] e pos :: rest) ρ m Φ := fun o ho E σ H D st q =>
  wS.of (pss_cons (ps_set hN hi hx peS hs hf) pssS) (he E [] [] σ H rfl st _ fun v H' st1 => h o ho E _ H' D (ST.assign st1 hl) q)
/-- x = e, the thing is owned: its value is named -/
theorem xg_asgP (i : Nat) {x : Str} {pos' : Pos} (he : XE X e ρ ρ1 A) (h : ∀ v, XG X rest (ρ1.set i (some (pin v A))) m Φ) (hl : i < ρ1.length := by exact Nat.le_of_ble_eq_true rfl) (hN : X.N.Nodup := by assumption) (hi : X.N[i]? = some x := by rfl) (hx : Loc X.env.scope x := by first | exact .inl rfl | exact .inr rfl)
    (hs : swapsWith e (some (.Name x pos')) pos.line X.env = pure false := by rfl) (hf : X.fn x = true ∨ X.env.scope.names.lookup x = some .local := by first | exact .inl rfl | exact .inr rfl | assumption) : XG X (.Assign [.Name x pos'] e pos :: rest) ρ m Φ :=
  xg_asg i he (xg_pin i (List.getElem?_set_self hl) fun v => by rw [set_set]; exact h v) hl hN hi hx hs hf
theorem xg_expr (he : XE X e ρ ρ1 A) (h : XG X rest ρ1 m Φ) (hs : swapsWith e none pos.line X.env = pure false := by rfl) : XG X (.Expr e pos :: rest) ρ m Φ := fun o ho E σ H D st q =>
  wS.of (pss_cons (ps_expr peS hs) pssS) (he E [] [] σ H rfl st _ fun v H' st1 => h o ho E σ H' D st1.pop q)
/-- x op= e, ints -/
theorem xg_augI (i : Nat) {x : Str} {pos' : Pos} {op : Operator} {g : Int → Int → Int} {n k : Int} (ho : PIp X op (ipI g)) (hx0 : ρ[i]? = some (some (aD X.K (.int n)))) (he : XE X e ρ ρ1 (aD X.K (.int k))) (h : XG X rest (ρ1.set i (some (aD X.K (.int (g n k))))) m Φ) (hl : i < ρ1.length := by exact Nat.le_of_ble_eq_true rfl) (hN : X.N.Nodup := by assumption)
    (hi : X.N[i]? = some x := by rfl) (hx : Loc X.env.scope x := by first | exact .inl rfl | exact .inr rfl) (hf : X.fn x = true ∨ X.env.scope.names.lookup x = some .local := by first | exact .inl rfl | exact .inr rfl | assumption) : XG X (.AugAssign (.Name x pos') op e pos :: rest) ρ m Φ := fun o ho' E σ H D st q => by
  have st0 := st
  obtain ⟨G, F, f, cs⟩ := st
  obtain ⟨v, F1, F2, e1, e2, ⟨q1, e3⟩, c2⟩ := Cs.slot (T := []) (t := []) rfl cs hx0
  cases q1
  refine wS.of (pss_cons (ps_aug hN hi hx peS ho hf) pssS) ⟨.int n, e1, he E [] [] σ H rfl st0 _ fun v H' st1 => ?_⟩
  obtain ⟨G, F, f, c, q2⟩ := ST.top st1
  cases q2
  exact ⟨n, k, rfl, rfl, h o ho' E _ H' D (ST.assign (ST.put (v := .int (g n k)) f c (.int _)) hl) q⟩
/-- if -/
theorem xg_if {k : Bool} {t u : List Stmt} {m1 m2 : Option β} {kk : β → Option ω} (hc : XT X c ρ ρ1 k) (h1 : k = true → XG X t ρ1 m1 (oS N)) (h2 : k = false → XG X u ρ1 m2 (oS N)) (h : ∀ s, XG X rest (N s) (kk s) Φ) : XG X (.If c t u pos :: rest) ρ ((if k = true then m1 else m2).bind kk) Φ :=
  xg_bind fun s hs o ho E σ H D st q => wS.of (pss_cons (ps_if ptS pssS pssS) pssS) (hc E [] [] σ H rfl st _ fun H1 st1 => by
    cases k with
    | true => exact h1 rfl s hs E σ H1 { D with nx := wS X rest D } st1 fun σ' H' st2 => h s o ho E σ' H' D st2 q
    | false => exact h2 rfl s hs E σ H1 { D with nx := wS X rest D } st1 fun σ' H' st2 => h s o ho E σ' H' D st2 q)
/-- if c: (it returns); what follows is the other branch and the rest -/
theorem xg_ifR {k : Bool} {t u : List Stmt} {m1 : Option γ} {m2 : Option γ} (hc : XT X c ρ ρ1 k) (h1 : k = true → XG X t ρ1 m1 (oR R)) (h2 : k = false → XG X rest ρ1 m2 (oR R)) : XG X (.If c t [] pos :: rest) ρ (if k = true then m1 else m2) (oR R) := fun o ho E σ H D st q =>
  wS.of (pss_cons (ps_if ptS pssS pssS) pssS) (hc E [] [] σ H rfl st _ fun H1 st1 => by
    cases k with
    | true => exact h1 rfl o ho E σ H1 { D with nx := wS X rest D } st1 q
    | false => exact wS.of pss_nil (h2 rfl o ho E σ H1 D st1 q))
theorem xg_ifRB {k : Bool} {t u : List Stmt} {m1 : Option γ} {m2 : Option (γ ⊕ β)} (hc : XT X c ρ ρ1 k) (h1 : k = true → XG X t ρ1 m1 (oR R)) (h2 : k = false → XG X rest ρ1 m2 (oB R N)) : XG X (.If c t [] pos :: rest) ρ (if k = true then m1.map Sum.inl else m2) (oB R N) := fun o ho E σ H D st q =>
  wS.of (pss_cons (ps_if ptS pssS pssS) pssS) (hc E [] [] σ H rfl st _ fun H1 st1 => by
    cases k with
    | true =>
      rw [if_pos rfl] at ho
      cases m1 with
      | none => cases ho
      | some r =>
        cases ho
        exact h1 rfl r rfl E σ H1 { D with nx := wS X rest D } st1 q
    | false => exact wS.of pss_nil (h2 rfl o ho E σ H1 D st1 q))
/-- both return -/
theorem xg_ifRR {k : Bool} {t u : List Stmt} {m1 m2 : Option γ} (hc : XT X c ρ ρ1 k) (h1 : k = true → XG X t ρ1 m1 (oR R)) (h2 : k = false → XG X u ρ1 m2 (oR R)) : XG X (.If c t u pos :: rest) ρ (if k = true then m1 else m2) (oR R) := fun o ho E σ H D st q =>
  wS.of (pss_cons (ps_if ptS pssS pssS) pssS) (hc E [] [] σ H rfl st _ fun H1 st1 => by
    cases k with
    | true => exact h1 rfl o ho E σ H1 { D with nx := wS X rest D } st1 q
    | false => exact h2 rfl o ho E σ H1 { D with nx := wS X rest D } st1 q)
/-- a block of both kinds, then the rest -/
def thenR {ω : Type} (m : Option (γ ⊕ β)) (k : β → Option ω) (f : γ → ω) : Option ω := m.bind fun o => match o with
  | .inl r => some (f r)
  | .inr b => k b
theorem xg_ifB {k : Bool} {t u : List Stmt} {m1 m2 : Option (γ ⊕ β)} {kk : β → Option γ} (hc : XT X c ρ ρ1 k) (h1 : k = true → XG X t ρ1 m1 (oB R N)) (h2 : k = false → XG X u ρ1 m2 (oB R N)) (h : ∀ s, XG X rest (N s) (kk s) (oR R)) : XG X (.If c t u pos :: rest) ρ (thenR (if k = true then m1 else m2) kk id) (oR R) :=
  xg_bind fun s hs o ho E σ H D st q => wS.of (pss_cons (ps_if ptS pssS pssS) pssS) (hc E [] [] σ H rfl st _ fun H1 st1 => by
    have fin : ∀ {v : List Stmt} {m : Option (γ ⊕ β)}, XG X v ρ1 m (oB R N) → m = some s → wS X v { D with nx := wS X rest D } σ H1 := fun {v m} hv hm => by
      refine hv s hm E σ H1 { D with nx := wS X rest D } st1 ?_
      cases s with
      | inl r => cases ho; exact q
      | inr b => exact fun σ' H' st2 => h b o ho E σ' H' D st2 q
    cases k with
    | true => exact fin (h1 rfl) hs
    | false => exact fin (h2 rfl) hs)
theorem xg_ifBB {β' : Type} {N' : β' → Cl} {k : Bool} {t u : List Stmt} {m1 m2 : Option (γ ⊕ β)} {kk : β → Option (γ ⊕ β')} (hc : XT X c ρ ρ1 k) (h1 : k = true → XG X t ρ1 m1 (oB R N)) (h2 : k = false → XG X u ρ1 m2 (oB R N)) (h : ∀ s, XG X rest (N s) (kk s) (oB R N')) : XG X (.If c t u pos :: rest) ρ (thenR (if k = true then m1 else m2) kk Sum.inl) (oB R N') :=
  xg_bind fun s hs o ho E σ H D st q => wS.of (pss_cons (ps_if ptS pssS pssS) pssS) (hc E [] [] σ H rfl st _ fun H1 st1 => by
    have fin : ∀ {v : List Stmt} {m : Option (γ ⊕ β)}, XG X v ρ1 m (oB R N) → m = some s → wS X v { D with nx := wS X rest D } σ H1 := fun {v m} hv hm => by
      refine hv s hm E σ H1 { D with nx := wS X rest D } st1 ?_
      cases s with
      | inl r => cases ho; exact q
      | inr b => exact fun σ' H' st2 => h b o ho E σ' H' D st2 q
    cases k with
    | true => exact fin (h1 rfl) hs
    | false => exact fin (h2 rfl) hs)
/-- a block that only goes on | only returns, as one of both kinds -/
theorem xg_SB {m : Option β} (h : XG X sts ρ m (oS N)) : XG X sts ρ (m.map Sum.inr) (oB R N) := fun o ho E σ H D st q => by
  cases m with
  | none => cases ho
  | some r => cases ho; exact h r rfl E σ H D st q
theorem xg_RB {m : Option γ} (h : XG X sts ρ m (oR R)) : XG X sts ρ (m.map Sum.inl) (oB R N) := fun o ho E σ H D st q => by
  cases m with
  | none => cases ho
  | some r => cases ho; exact h r rfl E σ H D st q

end
/-! ### targets -/
def wG (X : Cx) (tg : Expr) : TG := fun v σ H Q => ∀ pins s u, Inv X pins σ H s → RelV v u → wpAny (model X.prog X.w) X.A (assign tg X.env u) (fun _ s' => ∃ σ' H', Inv X pins σ' H' s' ∧ Q σ' H') X.xe s
theorem pgS {X : Cx} {tg : Expr} : PG X tg (wG X tg) := ⟨fun pins s _ _ _ u _ I r h => h pins s u I r⟩
theorem wG.of {X : Cx} {tg : Expr} {g : TG} (h : PG X tg g) {v : V} {σ : L2.St} {H : Hp} {Q : L2.St → Hp → Prop} (q : g v σ H Q) : wG X tg v σ H Q := fun pins s u I r => h.run pins s σ H v u Q I r q
theorem wG.mono {X : Cx} {tg : Expr} {v : V} {σ : L2.St} {H : Hp} {P P' : L2.St → Hp → Prop} (h : wG X tg v σ H P) (k : ∀ σ' H', P σ' H' → P' σ' H') : wG X tg v σ H P' := fun pins s u I r => thn (h pins s u I r) fun _ _ ⟨σ', H', I', q⟩ => ⟨σ', H', I', k _ _ q⟩
/-- a thing of which A holds is stored: ρ becomes ρ' -/
def XP (X : Cx) (tg : Expr) (A : OA) (ρ ρ' : Cl) : Prop := ∀ (E : Ent) (T : Cl) (t σ : L2.St) (H : Hp) (v : V), T.length = t.length → ST E (some A :: (T ++ ρ)) (some v :: (t ++ σ)) H → ∀ Q : L2.St → Hp → Prop, (∀ σ' H', ST E (T ++ ρ') (t ++ σ') H' → Q σ' H') → wG X tg v σ H Q
theorem ST.assignT {E : Ent} {T ρ : Cl} {t σ : L2.St} {H : Hp} {A : OA} {v : V} {i : Nat} (l : T.length = t.length) (h : ST E (some A :: (T ++ ρ)) (some v :: (t ++ σ)) H) (hi : i < ρ.length) : ST E (T ++ ρ.set i (some A)) (t ++ σ.set i (some v)) H := by
  have q := ST.assign (i := T.length + i) h (by rw [List.length_append]; omega)
  rwa [append_set_right, l, append_set_right] at q
section
variable {X : Cx} {ρ ρ1 ρ2 ρ3 : Cl} {a b c e tg : Expr} {pos p2 : Pos} {A B : OA} {d d1 d2 : PyData} {ds es : List PyData} {st : Stmt} {rest sts body : List Stmt} {ω β γ α : Type} {m : Option ω} {Φ : ω → Ent → Ends → Prop} {R : γ → Cl} {N : β → Cl}
theorem xp_nm (i : Nat) {x : Str} (hl : i < ρ.length := by exact Nat.le_of_ble_eq_true rfl) (hN : X.N.Nodup := by assumption) (hi : X.N[i]? = some x := by rfl) (hx : Loc X.env.scope x := by first | exact .inl rfl | exact .inr rfl) (hf : X.fn x = true ∨ X.env.scope.names.lookup x = some .local := by first | exact .inl rfl | exact .inr rfl | assumption) :
    XP X (.Name x pos) A ρ (ρ.set i (some A)) := fun E T t σ H v l st Q k => wG.of (pg_name hN hi hx hf) (k _ _ (ST.assignT l st hl))
/-- several targets -/
def wGs (X : Cx) (ts : List Expr) : TGs := fun vs σ H Q => ∀ pins s us, Inv X pins σ H s → Vals vs us → wpAny (model X.prog X.w) X.A (assignInOrder ((assignEach ts X.env).map (·.2)) us) (fun _ s' => ∃ σ' H', Inv X pins σ' H' s' ∧ Q σ' H') X.xe s
theorem pgsS {X : Cx} {ts : List Expr} : PGs X ts (wGs X ts) := ⟨fun pins s _ _ _ us _ I r h => h pins s us I r⟩
theorem wGs.of {X : Cx} {ts : List Expr} {g : TGs} (h : PGs X ts g) {vs : List V} {σ : L2.St} {H : Hp} {Q : L2.St → Hp → Prop} (q : g vs σ H Q) : wGs X ts vs σ H Q := fun pins s us I r => h.run pins s σ H vs us Q I r q
def XPs (X : Cx) (ts : List Expr) (ds : List PyData) (ρ ρ' : Cl) : Prop := ∀ (E : Ent) (T : Cl) (t σ : L2.St) (H : Hp) (vs : List V), T.length = t.length → vs.length = ds.length → ST E ((ds.map (aD X.K)).map some ++ (T ++ ρ)) (vs.map some ++ (t ++ σ)) H → ∀ Q : L2.St → Hp → Prop, (∀ σ' H', ST E (T ++ ρ') (t ++ σ') H' → Q σ' H') → wGs X ts vs σ H Q
theorem xps_nil : XPs X [] [] ρ ρ := fun E T t σ H vs l hl st Q k => by
  cases vs with
  | nil => exact wGs.of pgs_nil ⟨rfl, k σ H st⟩
  | cons _ _ => simp at hl
theorem xps_cons {ts : List Expr} (h : XP X tg (aD X.K d) ρ ρ1) (hr : XPs X ts ds ρ1 ρ2) (hs : (assignEach (tg :: ts) X.env).map (·.2) = assign tg X.env :: (assignEach ts X.env).map (·.2) := by rfl) : XPs X (tg :: ts) (d :: ds) ρ ρ2 := fun E T t σ H vs l hl st Q k => by
  cases vs with
  | nil => simp at hl
  | cons v vs =>
    have hl' : vs.length = ds.length := by simpa using hl
    refine wGs.of (pgs_cons pgS pgsS hs) ⟨v, vs, rfl, h E ((ds.map (aD X.K)).map some ++ T) (vs.map some ++ t) σ H v (by simp [l, hl']) (by simpa using st) _ fun σ' H' st' => ?_⟩
    exact hr E T t σ' H' vs l hl' (by simpa using st') Q k
theorem ST.untup {E : Ent} {K : PySem.W.Frag} {L : Cl} {C : L2.St} {H : Hp} {v : V} (st : ST E (some (aD K (.tuple ds)) :: L) (some v :: C) H) : ∃ a vs, v = .ref a ∧ SqT K H a vs ∧ vs.length = ds.length ∧ ST E ((ds.map (aD K)).map some ++ L) (vs.map some ++ C) H := by
  obtain ⟨G, F, f, c, q⟩ := ST.top st
  cases q with
  | tup h1 h2 => exact ⟨_, _, rfl, f.gh.st h1, h2.len, G, F, f, by simpa using (csD' h2).append c⟩
theorem xp_tup {ts : List Expr} {k : Nat} (hc : X.calm = true) (h : XPs X ts ds ρ ρ1) (hn : (assignEach ts X.env).length = ds.length := by rfl) (hst : (assignEach ts X.env).findIdx? (·.1) = none := by rfl) : XP X (.Tuple ts k pos) (aD X.K (.tuple ds)) ρ ρ1 := fun E T t σ H v l st Q kk => by
  obtain ⟨a, vs, e1, h1, h2, st2⟩ := st.untup
  exact wG.of (pg_tup hc pgsS hn hst) ⟨a, vs, e1, h1, h2, h E T t σ H vs l h2 st2 Q kk⟩
/-- target = e -/
theorem xg_tgt (he : XE X e ρ ρ1 A) (hg : XP X tg A ρ1 ρ2) (h : XG X rest ρ2 m Φ) (hs : swapsWithSole [tg] e pos.line X.env = pure false := by rfl) (hw : swappedStores [tg] e X.env = pure none := by rfl)
    (h1 : (assignEach [tg] X.env).map (·.2) = [assign tg X.env] := by rfl) : XG X (.Assign [tg] e pos :: rest) ρ m Φ := fun o ho E σ H D st q =>
  wS.of (pss_cons (ps_asg peS pgS hs hw h1) pssS) (he E [] [] σ H rfl st _ fun v H' st1 => hg E [] [] σ H' v rfl st1 _ fun σ' H'' st2 => h o ho E σ' H'' D st2 q)

/-! ### loops -/
def foldB {α : Type} (f : β → α → Option (γ ⊕ β)) : List α → β → Option (γ ⊕ β)
  | [], s => some (.inr s)
  | x :: xs, s => thenR (f s x) (foldB f xs) Sum.inl
/-- the words of a loop over things xs -/
theorem forS {g : TG} {xs : List α} {f : β → α → Option β} {s0 : β} {In : α → β → Cl} {D : Ends} {E : Ent} {σ : L2.St} {H : Hp} {s1 : β}
    (J : It) (hs : xs.foldlM f s0 = some s1) (st : ST E (N s0) σ H) (hk : ∀ σ' H', ST E (N s1) σ' H' → D.nx σ' H')
    (go : ∀ n s σ' H', n < xs.length → ST E (N s) σ' H' → J.go n H') (stop : ∀ s σ' H', ST E (N s) σ' H' → J.stop xs.length H')
    (yld : ∀ n x s σ' H' v H2, xs[n]? = some x → ST E (N s) σ' H' → J.yld n H' v H2 → ∀ P : L2.St → Hp → Prop, (∀ σ2 H3, ST E (In x s) σ2 H3 → P σ2 H3) → g v σ' H2 P)
    (hb : ∀ x s, XG X body (In x s) (f s x) (oS N)) :
    ∃ W : Nat → Nat → L2.St → Hp → Prop, (∃ m, W 0 m σ H) ∧ ∀ i m σ H, W i m σ H →
      (J.stop i H ∧ D.nx σ H) ∨ (J.go i H ∧ ∃ Nx : L2.St → Hp → Prop, (∀ σ' H', Nx σ' H' → ∃ m', m' < m ∧ W (i + 1) m' σ' H') ∧ ∀ x H', J.yld i H x H' → g x σ H' fun σ2 H2 => wS X body { D with nx := Nx, ct := Nx, bk := D.nx } σ2 H2) := by
  refine ⟨fun n m σ H => m = xs.length - n ∧ n ≤ xs.length ∧ ∃ s, (xs.drop n).foldlM f s = some s1 ∧ ST E (N s) σ H, ⟨xs.length, by simp, Nat.zero_le _, s0, by simpa using hs, st⟩, ?_⟩
  rintro n m σ H ⟨rfl, hn, s, hf, st⟩
  by_cases hlt : n < xs.length
  · have ed : xs.drop n = xs[n] :: xs.drop (n + 1) := List.drop_eq_getElem_cons hlt
    rw [ed, List.foldlM_cons] at hf
    cases hfx : f s xs[n] with
    | none => rw [hfx] at hf; cases hf
    | some s2 =>
      rw [hfx] at hf
      refine .inr ⟨go n s σ H hlt st, fun σ' H' => ST E (N s2) σ' H', fun σ' H' st' => ⟨xs.length - (n + 1), by omega, rfl, hlt, s2, hf, st'⟩, fun v H' y => ?_⟩
      refine yld n xs[n] s σ H v H' (List.getElem?_eq_getElem hlt) st y _ fun σ2 H2 p => ?_
      exact hb xs[n] s s2 hfx E σ2 H2 _ p fun σ' H' st' => st'
  · have e : n = xs.length := by omega
    subst e
    rw [List.drop_length] at hf
    cases hf
    exact .inl ⟨stop _ σ H st, hk σ H st⟩
theorem forB {g : TG} {xs : List α} {f : β → α → Option (γ ⊕ β)} {s0 : β} {In : α → β → Cl} {D : Ends} {E : Ent} {σ : L2.St} {H : Hp} {o1 : γ ⊕ β}
    (J : It) (hs : foldB f xs s0 = some o1) (st : ST E (N s0) σ H) (hk : ∀ s1, o1 = .inr s1 → ∀ σ' H', ST E (N s1) σ' H' → D.nx σ' H') (hr : ∀ r, o1 = .inl r → oR R r E D)
    (go : ∀ n s σ' H', n < xs.length → ST E (N s) σ' H' → J.go n H') (stop : ∀ s σ' H', ST E (N s) σ' H' → J.stop xs.length H')
    (yld : ∀ n x s σ' H' v H2, xs[n]? = some x → ST E (N s) σ' H' → J.yld n H' v H2 → ∀ P : L2.St → Hp → Prop, (∀ σ2 H3, ST E (In x s) σ2 H3 → P σ2 H3) → g v σ' H2 P)
    (hb : ∀ x s, XG X body (In x s) (f s x) (oB R N)) :
    ∃ W : Nat → Nat → L2.St → Hp → Prop, (∃ m, W 0 m σ H) ∧ ∀ i m σ H, W i m σ H →
      (J.stop i H ∧ D.nx σ H) ∨ (J.go i H ∧ ∃ Nx : L2.St → Hp → Prop, (∀ σ' H', Nx σ' H' → ∃ m', m' < m ∧ W (i + 1) m' σ' H') ∧ ∀ x H', J.yld i H x H' → g x σ H' fun σ2 H2 => wS X body { D with nx := Nx, ct := Nx, bk := D.nx } σ2 H2) := by
  refine ⟨fun n m σ H => m = xs.length - n ∧ n ≤ xs.length ∧ ∃ s, foldB f (xs.drop n) s = some o1 ∧ ST E (N s) σ H, ⟨xs.length, by simp, Nat.zero_le _, s0, by simpa using hs, st⟩, ?_⟩
  rintro n m σ H ⟨rfl, hn, s, hf, st⟩
  by_cases hlt : n < xs.length
  · have ed : xs.drop n = xs[n] :: xs.drop (n + 1) := List.drop_eq_getElem_cons hlt
    rw [ed] at hf
    have hf : thenR (f s xs[n]) (foldB f (xs.drop (n + 1))) Sum.inl = some o1 := hf
    unfold thenR at hf
    cases hfx : f s xs[n] with
    | none => rw [hfx] at hf; cases hf
    | some o2 =>
      rw [hfx] at hf
      cases o2 with
      | inr s2 =>
        have hf : foldB f (xs.drop (n + 1)) s2 = some o1 := hf
        refine .inr ⟨go n s σ H hlt st, fun σ' H' => ST E (N s2) σ' H', fun σ' H' st' => ⟨xs.length - (n + 1), by omega, rfl, hlt, s2, hf, st'⟩, fun v H' y => ?_⟩
        refine yld n xs[n] s σ H v H' (List.getElem?_eq_getElem hlt) st y _ fun σ2 H2 p => ?_
        exact hb xs[n] s _ hfx E σ2 H2 _ p fun σ' H' st' => st'
      | inl r =>
        have hf : some (Sum.inl r) = some o1 := hf
        cases hf
        refine .inr ⟨go n s σ H hlt st, fun σ' H' => False, fun σ' H' st' => st'.elim, fun v H' y => ?_⟩
        refine yld n xs[n] s σ H v H' (List.getElem?_eq_getElem hlt) st y _ fun σ2 H2 p => ?_
        exact hb xs[n] s _ hfx E σ2 H2 _ p (hr r rfl)
  · have e : n = xs.length := by omega
    subst e
    rw [List.drop_length] at hf
    have hf : some (Sum.inr s) = some o1 := hf
    cases hf
    exact .inl ⟨stop s σ H st, hk s rfl σ H st⟩

end
end Mr

set_option Elab.async false
set_option linter.all false
set_option maxRecDepth 100000
namespace Mr
open PySem PySem.Spec PyProof.Rows L2

/-! ### a later entry -/
def Later (E' E : Ent) : Prop := ∀ L C H, ST E' L C H → ST E L C H
theorem Later.refl (E : Ent) : Later E E := fun _ _ _ h => h
theorem Later.of {E : Ent} {G H : Hp} {F : List Addr} (f : Frm E G H F) : Later ⟨G, H, F⟩ E := fun L C H' ⟨G', F', f', c⟩ => by
  obtain ⟨f1, _⟩ := f.step (Fa := F) (Fr := []) (by simp) f'
  exact ⟨G', F', by simpa using f1, c⟩
def rangeI (lo : Int) (n : Nat) : List Int := (List.range n).map fun i : Nat => lo + (i : Int)
theorem rangeI_len (lo : Int) (n : Nat) : (rangeI lo n).length = n := by unfold rangeI; rw [List.length_map, List.length_range]
theorem rangeI_get {lo : Int} {n i : Nat} {x : Int} (h : (rangeI lo n)[i]? = some x) : x = lo + (i : Int) ∧ i < n := by
  have hl := lt_of_get h
  rw [rangeI_len] at hl
  unfold rangeI at h
  rw [List.getElem?_map, List.getElem?_range hl] at h
  cases h
  exact ⟨rfl, hl⟩

/-! ### what is walked -/
def wI (X : Cx) (tg iter : Expr) : TI := fun σ H R => ∀ pins s, Inv X pins σ H s → wpAny (model X.prog X.w) X.A (eval iter X.env) (fun v s1 => wpAny (model X.prog X.w) X.A (pyIter v) (PIE X pins σ tg R) X.xe s1) X.xe s
theorem piS {X : Cx} {tg iter : Expr} : PI X tg iter (wI X tg iter) := ⟨fun pins s _ _ _ I h => h pins s I⟩
theorem wI.of {X : Cx} {tg iter : Expr} {w : TI} (h : PI X tg iter w) {σ : L2.St} {H : Hp} {R : It → Hp → Prop} (q : w σ H R) : wI X tg iter σ H R := fun pins s I => h.run pins s σ H R I q
structure Gives {α : Type} (J : It) (E : Ent) (Ok : Cl → Prop) (xs : List α) (cv : α → OA) : Prop where
  go : ∀ n, n < xs.length → ∀ T t L C H, T.length = t.length → Ok L → ST E (T ++ L) (t ++ C) H → J.go n H
  stop : ∀ T t L C H, T.length = t.length → Ok L → ST E (T ++ L) (t ++ C) H → J.stop xs.length H
  yld : ∀ n x v H H', xs[n]? = some x → ∀ T t L C, T.length = t.length → Ok L → ST E (T ++ L) (t ++ C) H → J.yld n H v H' → ST E (some (cv x) :: (T ++ L)) (some v :: (t ++ C)) H'
/-- xs: what is walked, cv: what holds of an item -/
def XI (X : Cx) {α : Type} (tg iter : Expr) (ρ ρ1 : Cl) (Ok : Cl → Prop) (xs : List α) (cv : α → OA) : Prop := ∀ (E : Ent) (T : Cl) (t σ : L2.St) (H : Hp), T.length = t.length → ST E (T ++ ρ) (t ++ σ) H →
  ∀ R : It → Hp → Prop, (∀ J E' H', Later E' E → ST E' (T ++ ρ1) (t ++ σ) H' → Gives J E' Ok xs cv → R J H') → wI X tg iter σ H R
abbrev okAll : Cl → Prop := fun _ => True
section
variable {X : Cx} {ρ ρ1 ρ2 ρ3 : Cl} {a b c e tg iter : Expr} {pos p2 p : Pos} {A B : OA} {d d1 d2 : PyData} {ds es : List PyData} {α β γ ω : Type}
theorem itr_gives {E : Ent} (lo : Int) (n : Nat) : Gives (Itr lo n) E okAll (rangeI lo n) (fun x => aD X.K (.int x)) where
  go := fun i hi _ _ _ _ _ _ _ _ => by rw [rangeI_len] at hi; exact hi
  stop := fun _ _ _ _ _ _ _ _ => by rw [rangeI_len]; exact Nat.le_refl _
  yld := fun i x v H H' hx T t L C l _ st y => by
    obtain ⟨e1, e2⟩ := y
    obtain ⟨e3, _⟩ := rangeI_get hx
    subst e1 e2 e3
    obtain ⟨G, F, f, c⟩ := st
    exact ST.put f c (.int _)
theorem xi_range1 {n : Int} (hg : Gl X "range") (hm : X.mg "range" = none) (ha : XE X a ρ ρ1 (aD X.K (.int n))) (hn : -(2 ^ 62) ≤ n ∧ n < 2 ^ 62) (hs : starEach [a] X.env = [(false, eval a X.env)] := by rfl) :
    XI X tg (.Call (.Name "range" p) [a] [] pos) ρ ρ1 okAll (rangeI 0 n.toNat) (fun x => aD X.K (.int x)) := fun E T t σ H l st R k =>
  wI.of (pi_range1 hg hm (pa_cons peS pa_nil hs) hs) (ha E T t σ H l st _ fun v H1 st1 => by
    obtain ⟨G, F, f, cs, q⟩ := ST.top st1
    cases q
    exact ⟨n, rfl, hn.1, hn.2, k _ E _ (.refl _) ⟨G, F, f, cs⟩ (itr_gives 0 n.toNat)⟩)
theorem xi_range2 {n m : Int} (hg : Gl X "range") (hm : X.mg "range" = none) (ha : XE X a ρ ρ1 (aD X.K (.int n))) (hb : XE X b ρ1 ρ2 (aD X.K (.int m))) (hn : (-(2 ^ 62) ≤ n ∧ n < 2 ^ 62) ∧ (-(2 ^ 62) ≤ m ∧ m < 2 ^ 62))
    (hs : starEach [a, b] X.env = [(false, eval a X.env), (false, eval b X.env)] := by rfl) (hs2 : starEach [b] X.env = [(false, eval b X.env)] := by rfl) :
    XI X tg (.Call (.Name "range" p) [a, b] [] pos) ρ ρ2 okAll (rangeI n (m - n).toNat) (fun x => aD X.K (.int x)) := fun E T t σ H l st R k =>
  wI.of (pi_range2 hg hm (pa_cons peS (pa_cons peS pa_nil hs2) (by rw [hs, hs2])) hs hs2) (ha E T t σ H l st _ fun v H1 st1 => hb E (_ :: T) (_ :: t) σ H1 (by simp [l]) st1 _ fun w H2 st2 => by
    obtain ⟨G, F, f, cs, q1, q2⟩ := ST.top2 st2
    cases q1
    cases q2
    exact ⟨n, m, rfl, ⟨hn.1.1, hn.1.2, hn.2.1, hn.2.2⟩, k _ E _ (.refl _) ⟨G, F, f, cs⟩ (itr_gives n (m - n).toNat)⟩)
/-- a list of data that stays -/
theorem itl_gives {E : Ent} {p : Addr} {vs : List V} {xs : List α} {cv : α → PyData} (h : SqL X.K E.G p vs) (q : DqAll X.K E.G vs (xs.map cv)) : Gives (Itl X.K p) E okAll xs (fun x => aD X.K (cv x)) where
  go := fun i hi T t L C H l _ st => by
    obtain ⟨G, F, f, c⟩ := st
    have hl : i < vs.length := by rw [q.len, List.length_map]; exact hi
    exact ⟨vs, vs[i], f.gh.sl (f.gg.sl h), List.getElem?_eq_getElem hl⟩
  stop := fun T t L C H l _ st => by
    obtain ⟨G, F, f, c⟩ := st
    exact ⟨vs, f.gh.sl (f.gg.sl h), by rw [q.len, List.length_map]; exact Nat.le_refl _⟩
  yld := fun i x v H H' hx T t L C l _ st y => by
    obtain ⟨G, F, f, c⟩ := st
    obtain ⟨e1, e2⟩ := y
    have e3 := e2 vs (f.gh.sl (f.gg.sl h))
    obtain ⟨w, e4, e5⟩ := q.get (i := i) (d := cv x) (by rw [List.getElem?_map, hx]; rfl)
    rw [e3] at e4
    cases e4
    subst e1
    exact ST.put f c (Dq.mono f.gg _ _ e5)
theorem itt_gives {E : Ent} {p : Addr} {vs : List V} {xs : List α} {cv : α → PyData} (h : SqT X.K E.G p vs) (q : DqAll X.K E.G vs (xs.map cv)) : Gives (Itt X.K p) E okAll xs (fun x => aD X.K (cv x)) where
  go := fun i hi T t L C H l _ st => by
    obtain ⟨G, F, f, c⟩ := st
    have hl : i < vs.length := by rw [q.len, List.length_map]; exact hi
    exact ⟨vs, vs[i], f.gh.st (f.gg.st h), List.getElem?_eq_getElem hl⟩
  stop := fun T t L C H l _ st => by
    obtain ⟨G, F, f, c⟩ := st
    exact ⟨vs, f.gh.st (f.gg.st h), by rw [q.len, List.length_map]; exact Nat.le_refl _⟩
  yld := fun i x v H H' hx T t L C l _ st y => by
    obtain ⟨G, F, f, c⟩ := st
    obtain ⟨e1, e2⟩ := y
    have e3 := e2 vs (f.gh.st (f.gg.st h))
    obtain ⟨w, e4, e5⟩ := q.get (i := i) (d := cv x) (by rw [List.getElem?_map, hx]; rfl)
    rw [e3] at e4
    cases e4
    subst e1
    exact ST.put f c (Dq.mono f.gg _ _ e5)
theorem xi_list {xs : List α} {cv : α → PyData} (h : XE X iter ρ ρ1 (aD X.K (.list (xs.map cv)))) : XI X tg iter ρ ρ1 okAll xs (fun x => aD X.K (cv x)) := fun E T t σ H l st R k =>
  wI.of (pi_list peS) (h E T t σ H l st _ fun v H1 st1 => by
    obtain ⟨G, F, f, cs, q⟩ := ST.top st1
    cases q with
    | lst h1 h2 => exact ⟨_, rfl, ⟨_, .inl (.inl (f.gh _ _ h1))⟩, k _ ⟨G, H1, F⟩ _ (Later.of f) ⟨G, F, f.start, cs⟩ (itl_gives (.inl (.inl h1)) h2)⟩)
theorem xi_scr {xs : List α} {cv : α → PyData} (h : XE X iter ρ ρ1 (aR X.K (xs.map cv))) : XI X tg iter ρ ρ1 okAll xs (fun x => aD X.K (cv x)) := fun E T t σ H l st R k =>
  wI.of (pi_list peS) (h E T t σ H l st _ fun v H1 st1 => by
    obtain ⟨G, F, Fv, f, cs, ⟨a, vs, e1, h1, h2⟩, _⟩ := ST.one st1
    exact ⟨a, e1, ⟨_, f.gh.sl h1⟩, k _ ⟨G, H1, F⟩ _ (Later.of f) ⟨G, F, f.start, cs⟩ (itl_gives h1 h2)⟩)
theorem xi_tup {xs : List α} {cv : α → PyData} (h : XE X iter ρ ρ1 (aD X.K (.tuple (xs.map cv)))) : XI X tg iter ρ ρ1 okAll xs (fun x => aD X.K (cv x)) := fun E T t σ H l st R k =>
  wI.of (pi_tup peS) (h E T t σ H l st _ fun v H1 st1 => by
    obtain ⟨G, F, f, cs, q⟩ := ST.top st1
    cases q with
    | tup h1 h2 => exact ⟨_, rfl, ⟨_, f.gh.st h1⟩, k _ ⟨G, H1, F⟩ _ (Later.of f) ⟨G, F, f.start, cs⟩ (itt_gives h1 h2)⟩)
/-- an owned list of data that stands in the slot i, as it is through all turns -/
theorem xi_own (i : Nat) {v0 : V} {xs : List α} {cv : α → PyData} (h : XE X iter ρ ρ1 (aV v0)) (hi : ρ1[i]? = some (some (pin v0 (aLD X.K (xs.map cv))))) : XI X tg iter ρ ρ1 (fun L => L[i]? = some (some (pin v0 (aLD X.K (xs.map cv))))) xs (fun x => aD X.K (cv x)) := fun E T t σ H l st R k => by
  have rd : ∀ {E : Ent} {T : Cl} {t : L2.St} {L : Cl} {C : L2.St} {H : Hp}, T.length = t.length → L[i]? = some (some (pin v0 (aLD X.K (xs.map cv)))) → ST E (T ++ L) (t ++ C) H → ∃ p vs G F, v0 = .ref p ∧ SqL X.K H p vs ∧ Frm E G H F ∧ Cs G H (T ++ L) (t ++ C) F ∧ DqAll X.K G vs (xs.map cv) := fun {E T t L C H} l hL st => by
    obtain ⟨G, F, f, c⟩ := st
    obtain ⟨p, vs, e1, e2, e3⟩ := rmO (K := X.K) i hL l c f.gh (v := v0) (Fv := []) ⟨rfl, rfl⟩
    exact ⟨p, vs, G, F, e1, .inl (.inl e2), f, c, e3⟩
  refine wI.of (pi_list peS) (h E T t σ H l st _ fun v H1 st1 => ?_)
  obtain ⟨G, F, Fv, f, cs, e0, _⟩ := ST.one st1
  have st2 : ST E (T ++ ρ1) (t ++ σ) H1 := ⟨G, F, f, cs⟩
  obtain ⟨p, vs, G', F', e1, h1, _, _, _⟩ := rd l hi st2
  subst e0 e1
  refine ⟨p, rfl, ⟨_, h1⟩, k _ E _ (.refl _) st2 ⟨fun n hn T t L C H l ok st => ?_, fun T t L C H l ok st => ?_, fun n x v H H' hx T t L C l ok st y => ?_⟩⟩
  · obtain ⟨p', vs', G2, F2, e1, h1, _, _, q⟩ := rd l ok st
    cases e1
    have hl : n < vs'.length := by rw [q.len, List.length_map]; exact hn
    exact ⟨vs', vs'[n], h1, List.getElem?_eq_getElem hl⟩
  · obtain ⟨p', vs', G2, F2, e1, h1, _, _, q⟩ := rd l ok st
    cases e1
    exact ⟨vs', h1, by rw [q.len, List.length_map]; exact Nat.le_refl _⟩
  · obtain ⟨p', vs', G2, F2, e1, h1, f2, c2, q⟩ := rd l ok st
    cases e1
    obtain ⟨e1, e2⟩ := y
    have e3 := e2 vs' h1
    obtain ⟨w, e4, e5⟩ := q.get (i := n) (d := cv x) (by rw [List.getElem?_map, hx]; rfl)
    rw [e3] at e4
    cases e4
    subst e1
    exact ST.put f2 c2 e5

variable {body rest : List Stmt} {m : Option ω} {Φ : ω → Ent → Ends → Prop} {R : γ → Cl} {N : β → Cl}
/-- for, each turn goes on -/
theorem xg_for {Ok : Cl → Prop} {xs : List α} {cv : α → OA} {f : β → α → Option β} {s0 : β} {In : α → β → Cl} {kk : β → Option ω} (hp : PassesOwn (model X.prog X.w) X.A X.env X.xe) (hc : X.calm = true) (hi : XI X tg iter ρ ρ1 Ok xs cv) (hw : Wk ρ1 (N s0)) (hok : ∀ s, Ok (N s))
    (ht : ∀ x s, XP X tg (cv x) (N s) (In x s)) (hb : ∀ x s, XG X body (In x s) (f s x) (oS N)) (h : ∀ s, XG X rest (N s) (kk s) Φ) (hs : ∀ x, foldedSetIterable iter X.env x = pure x := by intro _; rfl) :
    XG X (.For tg iter body [] pos :: rest) ρ ((xs.foldlM f s0).bind kk) Φ :=
  xg_bind fun s1 h1 o ho E σ H D st q => wS.of (pss_cons (ps_for hp hc piS pgS pssS hs) pssS) (hi E [] [] σ H rfl st _ fun J E' H' lt st' gv =>
    forS (N := N) (In := In) (E := E') J h1 (st'.wk hw) (fun σ' H' s2 => h s1 o ho E σ' H' D (lt _ _ _ s2) q)
      (fun n s σ' H' hn st2 => gv.go n hn [] [] _ _ _ rfl (hok s) st2) (fun s σ' H' st2 => gv.stop [] [] _ _ _ rfl (hok s) st2)
      (fun n x s σ' H' v H2 hx st2 y P hP => ht x s E' [] [] σ' H2 v rfl (gv.yld n x v H' H2 hx [] [] _ _ rfl (hok s) st2 y) P hP) hb)
/-- for, a turn may return -/
theorem xg_forR {Ok : Cl → Prop} {xs : List α} {cv : α → OA} {f : β → α → Option (γ ⊕ β)} {s0 : β} {In : α → β → Cl} {kk : β → Option γ} (hp : PassesOwn (model X.prog X.w) X.A X.env X.xe) (hc : X.calm = true) (hi : XI X tg iter ρ ρ1 Ok xs cv) (hw : Wk ρ1 (N s0)) (hok : ∀ s, Ok (N s))
    (ht : ∀ x s, XP X tg (cv x) (N s) (In x s)) (hb : ∀ x s, XG X body (In x s) (f s x) (oB R N)) (h : ∀ s, XG X rest (N s) (kk s) (oR R)) (hs : ∀ x, foldedSetIterable iter X.env x = pure x := by intro _; rfl) :
    XG X (.For tg iter body [] pos :: rest) ρ (thenR (foldB f xs s0) kk id) (oR R) :=
  xg_bind fun s1 h1 o ho E σ H D st q => wS.of (pss_cons (ps_for hp hc piS pgS pssS hs) pssS) (hi E [] [] σ H rfl st _ fun J E' H' lt st' gv =>
    forB (N := N) (In := In) (E := E') (R := R) J h1 (st'.wk hw) (fun s e σ' H' s2 => by
        subst e
        exact h s o ho E σ' H' D (lt _ _ _ s2) q)
      (fun r e => by
        subst e
        cases ho
        exact fun v σ' H' s2 => q v σ' H' (lt _ _ _ s2))
      (fun n s σ' H' hn st2 => gv.go n hn [] [] _ _ _ rfl (hok s) st2) (fun s σ' H' st2 => gv.stop [] [] _ _ _ rfl (hok s) st2)
      (fun n x s σ' H' v H2 hx st2 y P hP => ht x s E' [] [] σ' H2 v rfl (gv.yld n x v H' H2 hx [] [] _ _ rfl (hok s) st2 y) P hP) hb)
theorem xg_forRB {β' : Type} {N' : β' → Cl} {Ok : Cl → Prop} {xs : List α} {cv : α → OA} {f : β → α → Option (γ ⊕ β)} {s0 : β} {In : α → β → Cl} {kk : β → Option (γ ⊕ β')} (hp : PassesOwn (model X.prog X.w) X.A X.env X.xe) (hc : X.calm = true) (hi : XI X tg iter ρ ρ1 Ok xs cv) (hw : Wk ρ1 (N s0)) (hok : ∀ s, Ok (N s))
    (ht : ∀ x s, XP X tg (cv x) (N s) (In x s)) (hb : ∀ x s, XG X body (In x s) (f s x) (oB R N)) (h : ∀ s, XG X rest (N s) (kk s) (oB R N')) (hs : ∀ x, foldedSetIterable iter X.env x = pure x := by intro _; rfl) :
    XG X (.For tg iter body [] pos :: rest) ρ (thenR (foldB f xs s0) kk Sum.inl) (oB R N') :=
  xg_bind fun s1 h1 o ho E σ H D st q => wS.of (pss_cons (ps_for hp hc piS pgS pssS hs) pssS) (hi E [] [] σ H rfl st _ fun J E' H' lt st' gv =>
    forB (N := N) (In := In) (E := E') (R := R) J h1 (st'.wk hw) (fun s e σ' H' s2 => by
        subst e
        exact h s o ho E σ' H' D (lt _ _ _ s2) q)
      (fun r e => by
        subst e
        cases ho
        exact fun v σ' H' s2 => q v σ' H' (lt _ _ _ s2))
      (fun n s σ' H' hn st2 => gv.go n hn [] [] _ _ _ rfl (hok s) st2) (fun s σ' H' st2 => gv.stop [] [] _ _ _ rfl (hok s) st2)
      (fun n x s σ' H' v H2 hx st2 y P hP => ht x s E' [] [] σ' H2 v rfl (gv.yld n x v H' H2 hx [] [] _ _ rfl (hok s) st2 y) P hP) hb)
/-- while -/
def whileO (c : β → Option Bool) (f : β → Option β) : Nat → β → Option β
  | 0, _ => none
  | n + 1, s => (c s).bind fun b => if b = true then (f s).bind (whileO c f n) else some s
theorem xg_while {cb : β → Option Bool} {f : β → Option β} {fuel : Nat} {s0 : β} {kk : β → Option ω} {N1 : β → Cl} (hp : PassesOwn (model X.prog X.w) X.A X.env X.xe) (hw : Wk ρ (N s0)) (hc : ∀ s k, cb s = some k → XT X c (N s) (N1 s) k) (hb : ∀ s, XG X body (N1 s) (f s) (oS N)) (h : ∀ s, XG X rest (N1 s) (kk s) Φ) :
    XG X (.While c body [] pos :: rest) ρ ((whileO cb f fuel s0).bind kk) Φ :=
  xg_bind fun s1 h1 o ho E σ H D st q => wS.of (pss_cons (ps_while hp ptS pssS) pssS) (by
    refine ⟨fun n σ H => ∃ s, whileO cb f n s = some s1 ∧ ST E (N s) σ H, ⟨fuel, s0, h1, st.wk hw⟩, ?_⟩
    rintro n σ H ⟨s, hs, st⟩
    cases n with
    | zero => cases hs
    | succ n =>
      have hs : ((cb s).bind fun b => if b = true then (f s).bind (whileO cb f n) else some s) = some s1 := hs
      cases hk : cb s with
      | none => rw [hk] at hs; cases hs
      | some k =>
        rw [hk] at hs
        refine hc s k hk E [] [] σ H rfl st _ fun H1 st1 => ?_
        cases k with
        | false =>
          have hs : some s = some s1 := hs
          cases hs
          exact h _ o ho E σ H1 D st1 q
        | true =>
          have hs : (f s).bind (whileO cb f n) = some s1 := hs
          cases hf : f s with
          | none => rw [hf] at hs; cases hs
          | some s2 =>
            rw [hf] at hs
            exact ⟨fun σ' H' => ST E (N s2) σ' H', fun σ' H' st2 => ⟨n, Nat.lt_succ_self _, s2, hs, st2⟩, hb s s2 hf E σ H1 _ st1 fun σ' H' st2 => st2⟩)
end
end Mr

set_option Elab.async false
set_option linter.all false
set_option maxRecDepth 100000
namespace Mr
open PySem PySem.Spec PyProof.Rows L2

/-! ### a def's promise by its mirror m: pre: the arguments' words; post: what holds of them behind (none: nothing is said); ret: the answer's word -/
def SpM {δ γ : Type} (pre : δ → List OA) (m : δ → Option γ) (post : δ → γ → Cl) (ret : δ → γ → OA) : Sp := fun vs H Q _ => ∃ (x : δ) (r : γ) (G : Hp) (F : List Addr), m x = some r ∧ Frm ⟨G, H, F⟩ G H F ∧ Cs G H ((pre x).map some) (vs.map some) F ∧ vs.length = (pre x).length ∧
  ∀ v H', ST ⟨G, H, F⟩ (some (ret x r) :: post x r) (some v :: vs.map some) H' → Q v H'
def pinF : List Bool → List OA → List V → Cl
  | true :: fs, A :: As, v :: vs => some (pin v A) :: pinF fs As vs
  | false :: fs, A :: As, _ :: vs => some A :: pinF fs As vs
  | _, _, _ => []
def pinP : Cl → List V → Cl
  | some A :: As, v :: vs => some (pin v A) :: pinP As vs
  | none :: As, _ :: vs => none :: pinP As vs
  | _, _ => []
theorem Cs.nones {G H : Hp} : ∀ n : Nat, Cs G H (List.replicate n none) (List.replicate n none) []
  | 0 => rfl
  | n + 1 => Cs.nones n
theorem Cs.pinF {G H : Hp} : ∀ {fs : List Bool} {As : List OA} {vs : List V} {F : List Addr}, fs.length = As.length → Cs G H (As.map some) (vs.map some) F → Cs G H (Mr.pinF fs As vs) (vs.map some) F
  | [], [], [], _, _, c => c
  | [], [], _ :: _, _, _, c => c.elim
  | [], _ :: _, _, _, l, _ => by simp at l
  | _ :: _, [], _, _, l, _ => by simp at l
  | _ :: _, _ :: _, [], _, _, c => c.elim
  | true :: fs, A :: As, v :: vs, F, l, c => by
    obtain ⟨w, F1, F2, e1, e2, a, c⟩ := c
    cases e1
    exact ⟨v, F1, F2, rfl, e2, ⟨rfl, a⟩, c.pinF (by simpa using l)⟩
  | false :: fs, A :: As, v :: vs, F, l, c => by
    obtain ⟨w, F1, F2, e1, e2, a, c⟩ := c
    cases e1
    exact ⟨v, F1, F2, rfl, e2, a, c.pinF (by simpa using l)⟩
theorem Cs.noneF {G H : Hp} : ∀ {n : Nat} {σ : L2.St} {F : List Addr}, Cs G H (List.replicate n none) σ F → F = []
  | 0, [], _, c => c
  | 0, _ :: _, _, c => c.elim
  | n + 1, [], _, c => c.elim
  | n + 1, _ :: σ, F, c => Cs.noneF (n := n) (σ := σ) c
theorem Cs.pinP {G H : Hp} {n : Nat} : ∀ {P : Cl} {vs : List V} {σ : L2.St} {F : List Addr}, P.length = vs.length → Cs G H (Mr.pinP P vs ++ List.replicate n none) σ F → Cs G H P (vs.map some) F
  | [], [], σ, F, _, c => Cs.noneF c
  | [], _ :: _, _, _, l, _ => by simp at l
  | _ :: _, [], _, _, l, _ => by simp at l
  | none :: P, _ :: vs, [], _, l, c => c.elim
  | some A :: P, _ :: vs, [], _, l, c => c.elim
  | none :: P, v :: vs, y :: σ, F, l, c => Cs.pinP (P := P) (vs := vs) (σ := σ) (by simpa using l) c
  | some A :: P, v :: vs, y :: σ, F, l, c => by
    obtain ⟨w, F1, F2, e1, e2, ⟨e3, a⟩, c⟩ := c
    subst e3
    exact ⟨w, F1, F2, rfl, e2, a, Cs.pinP (by simpa using l) c⟩
section
variable {P : Program} {w : World} {K : PySem.W.Frag} {mg : Str → Option Value} {base : Heap} {δ γ : Type} {pre : δ → List OA} {m : δ → Option γ} {post : δ → γ → Cl} {ret : δ → γ → OA}
theorem start_cs {G H : Hp} {fs : List Bool} {As : List OA} {vs : List V} {F : List Addr} {N : List Str} (l : fs.length = As.length) (c : Cs G H (As.map some) (vs.map some) F) : Cs G H (pinF fs As vs ++ List.replicate (N.length - vs.length) none) (L2.start N vs) F := by
  have q := (c.pinF l).append (Cs.nones (G := G) (H := H) (N.length - vs.length))
  simpa [L2.start] using q
/-- THE RULE for a def that returns (nothing is raised) -/
theorem fn_ok {x qual : Str} {st : Stmt} {f : Addr} {fd : FuncData} {N ps : List Str} {k : Nat} (fs : List Bool) (F : Fun K x qual st f fd) (S : FnScope N ps (defScope st)) (hf : fs.length = ps.length) (hp : ∀ x, (pre x).length = ps.length) (hq : ∀ x r, (post x r).length = ps.length)
    (hb : ∀ (x : δ) (vs : List V) (cdv : Value) (A : Around) (outer : List Env) (s : Shared) (H : Hp) (E : XK), vs.length = ps.length → Room k (A.deeper (envOfC qual (defScope st) s.heap.objs.size f cdv)) →
      XG (cxOf CX0 P w K mg base N qual (defScope st) f cdv A outer s H E).nox (defBody st) (pinF fs (pre x) vs ++ List.replicate (N.length - vs.length) none) (m x) (oR fun r => some (ret x r) :: (pinP (post x r) vs ++ List.replicate (N.length - vs.length) none))) :
    FnOk P w K mg base CX0 (k + 1) f fd ps (SpM pre m post ret) := by
  refine F.ok S (fun vs H Q E h => ?_) (fun cdv A outer s H vs Q E hr h => ?_)
  · obtain ⟨x, r, G, F, _, _, c, hl, _⟩ := h
    exact hl.trans (hp x)
  · obtain ⟨x, r, G, F, hm, f, c, hl, q⟩ := h
    have hv : vs.length = ps.length := hl.trans (hp x)
    refine ⟨_, pssS, hb x vs cdv A outer s H E hv hr r hm ⟨G, H, F⟩ (L2.start N vs) H _ ⟨G, F, f, start_cs (hf.trans (hp x).symm) c⟩ fun v σ' H' st => q v H' ?_⟩
    obtain ⟨G', F', f', v', F1, F2, e1, e2, a, c'⟩ := st
    exact ⟨G', F', f', v', F1, F2, e1, e2, a, c'.pinP ((hq x r).trans hv.symm)⟩
/-- a def that falls off its end: None -/
theorem fn_okN {x qual : Str} {st : Stmt} {f : Addr} {fd : FuncData} {N ps : List Str} {k : Nat} (fs : List Bool) (F : Fun K x qual st f fd) (S : FnScope N ps (defScope st)) (hf : fs.length = ps.length) (hp : ∀ x, (pre x).length = ps.length) (hq : ∀ x r, (post x r).length = ps.length)
    (hb : ∀ (x : δ) (vs : List V) (cdv : Value) (A : Around) (outer : List Env) (s : Shared) (H : Hp) (E : XK), vs.length = ps.length → Room k (A.deeper (envOfC qual (defScope st) s.heap.objs.size f cdv)) →
      XG (cxOf CX0 P w K mg base N qual (defScope st) f cdv A outer s H E).nox (defBody st) (pinF fs (pre x) vs ++ List.replicate (N.length - vs.length) none) (m x) (oS fun r => (pinP (post x r) vs ++ List.replicate (N.length - vs.length) none))) :
    FnOk P w K mg base CX0 (k + 1) f fd ps (SpM pre m post fun _ _ => aD K .none) := by
  refine F.ok S (fun vs H Q E h => ?_) (fun cdv A outer s H vs Q E hr h => ?_)
  · obtain ⟨x, r, G, F, _, _, c, hl, _⟩ := h
    exact hl.trans (hp x)
  · obtain ⟨x, r, G, F, hm, f, c, hl, q⟩ := h
    have hv : vs.length = ps.length := hl.trans (hp x)
    refine ⟨_, pssS, hb x vs cdv A outer s H E hv hr r hm ⟨G, H, F⟩ (L2.start N vs) H _ ⟨G, F, f, start_cs (hf.trans (hp x).symm) c⟩ fun σ' H' st => q .non H' ?_⟩
    obtain ⟨G', F', f', c'⟩ := st
    exact ST.put f' (c'.pinP ((hq x r).trans hv.symm)) .non
/-- .. that returns early, or falls off its end: None both times -/
theorem fn_okB {x qual : Str} {st : Stmt} {f : Addr} {fd : FuncData} {N ps : List Str} {k : Nat} {m : δ → Option (γ ⊕ γ)} (fs : List Bool) (F : Fun K x qual st f fd) (S : FnScope N ps (defScope st)) (hf : fs.length = ps.length) (hp : ∀ x, (pre x).length = ps.length) (hq : ∀ x r, (post x r).length = ps.length)
    (hb : ∀ (x : δ) (vs : List V) (cdv : Value) (A : Around) (outer : List Env) (s : Shared) (H : Hp) (E : XK), vs.length = ps.length → Room k (A.deeper (envOfC qual (defScope st) s.heap.objs.size f cdv)) →
      XG (cxOf CX0 P w K mg base N qual (defScope st) f cdv A outer s H E).nox (defBody st) (pinF fs (pre x) vs ++ List.replicate (N.length - vs.length) none) (m x) (oB (fun r => some (aD K .none) :: (pinP (post x r) vs ++ List.replicate (N.length - vs.length) none)) fun r => (pinP (post x r) vs ++ List.replicate (N.length - vs.length) none))) :
    FnOk P w K mg base CX0 (k + 1) f fd ps (SpM pre (fun x => (m x).map (Sum.elim id id)) post fun _ _ => aD K .none) := by
  refine F.ok S (fun vs H Q E h => ?_) (fun cdv A outer s H vs Q E hr h => ?_)
  · obtain ⟨x, r, G, F, _, _, c, hl, _⟩ := h
    exact hl.trans (hp x)
  · obtain ⟨x, r, G, F, hm, f, c, hl, q⟩ := h
    have hv : vs.length = ps.length := hl.trans (hp x)
    have hm : (m x).map (Sum.elim id id) = some r := hm
    cases hm2 : m x with
    | none => rw [hm2] at hm; cases hm
    | some o =>
      rw [hm2] at hm
      refine ⟨_, pssS, hb x vs cdv A outer s H E hv hr o hm2 ⟨G, H, F⟩ (L2.start N vs) H _ ⟨G, F, f, start_cs (hf.trans (hp x).symm) c⟩ ?_⟩
      cases o with
      | inl r' =>
        cases hm
        intro v σ' H' st
        refine q v H' ?_
        obtain ⟨G', F', f', v', F1, F2, e1, e2, a, c'⟩ := st
        exact ⟨G', F', f', v', F1, F2, e1, e2, a, c'.pinP ((hq x _).trans hv.symm)⟩
      | inr r' =>
        cases hm
        intro σ' H' st
        refine q .non H' ?_
        obtain ⟨G', F', f', c'⟩ := st
        exact ST.put f' (c'.pinP ((hq x _).trans hv.symm)) .non
end

/-! ### calls of the text's own defs -/
/-- what stands at a module's name: a def that keeps its promise -/
structure Cal (P : Program) (w : World) (K : PySem.W.Frag) (mg : Str → Option Value) (base : Heap) (k : Nat) (x : Str) (sp : Sp) : Prop where
  ex : ∃ (f : Addr) (fd : FuncData) (ps : List Str), FnOk P w K mg base CX0 k f fd ps sp ∧ mg x = some (.ref f) ∧ PySem.W.keepIn K (.ref f) = true ∧ Binds K fd ps []
/-- arguments, some of which are lent from slots: (its place, the slot, its value) -/
def XL (X : Cx) (es : List Expr) (ρ ρ' : Cl) (As : List OA) (ls : List (Nat × Nat × V)) : Prop := ∀ (E : Ent) (T : Cl) (t σ : L2.St) (H : Hp), T.length = t.length → ST E (T ++ ρ) (t ++ σ) H →
  ∀ Q : List V → Hp → Prop, (∀ vs H', vs.length = As.length → (∀ p ∈ ls, vs[p.1]? = some p.2.2 ∧ σ[p.2.1]? = some (some p.2.2)) → ST E (As.map some ++ (T ++ ρ')) (vs.map some ++ (t ++ σ)) H' → Q vs H') → wA X es σ H Q
/-- what is lent comes back -/
def backs (P : Cl) : List (Nat × Nat × V) → Cl → Cl
  | [], ρ => ρ
  | (j, i, v) :: ls, ρ => match P[j]? with
    | some (some A) => (backs P ls ρ).set i (some (pin v A))
    | _ => backs P ls ρ
section
variable {X : Cx} {ρ ρ1 ρ2 ρ3 : Cl} {a b c e : Expr} {es : List Expr} {pos p : Pos} {A B : OA} {As : List OA} {ls : List (Nat × Nat × V)} {δ γ : Type} {pre : δ → List OA} {m : δ → Option γ} {post : δ → γ → Cl} {ret : δ → γ → OA}
theorem xl_of (h : XA X es ρ ρ1 As) : XL X es ρ ρ1 As [] := fun E T t σ H l st Q k => h E T t σ H l st Q fun vs H' hl st' => k vs H' hl (fun _ hp => by simp at hp) st'
theorem xl_lend (j i : Nat) {v0 : V} (h : XL X es ρ ρ1 As ls) (hj : As[j]? = some (aV v0)) (hi : ρ1[i]? = some (some (pin v0 A))) : XL X es ρ (ρ1.set i none) (As.set j A) ((j, i, v0) :: ls) := fun E T t σ H l st Q k => h E T t σ H l st Q fun vs H' hl hls st' => by
  obtain ⟨G, F, f, c⟩ := st'
  have lj : j < As.length := lt_of_get hj
  -- the value
  obtain ⟨v, F1, F2, e1, e2, ⟨e3, e4⟩, c1⟩ := c.split (i := j) (A := aV v0) (by rw [List.getElem?_append_left (by simpa using lj), List.getElem?_map, hj]; rfl)
  subst e3 e4
  have hv : vs[j]? = some v := by
    rw [List.getElem?_append_left (by simp [hl, lj]), List.getElem?_map] at e1
    cases q : vs[j]? with
    | none => rw [q] at e1; cases e1
    | some u => rw [q] at e1; cases e1; rfl
  rw [List.set_append_left _ _ (by simpa using lj)] at c1
  -- the slot
  have c2 : Cs G H' (((As.map some).set j none ++ T) ++ ρ1) ((vs.map some ++ t) ++ σ) F2 := by simpa using c1
  obtain ⟨u, F3, F4, e5, e6, ⟨e7, q⟩, c3⟩ := c2.slot (by simp [l, hl]) hi
  subst e7
  have c4 : Cs G H' ((As.map some ++ (T ++ ρ1.set i none)).set j none) (vs.map some ++ (t ++ σ)) F4 := by
    rw [List.set_append_left _ _ (by simpa using lj)]
    simpa using c3
  obtain ⟨F5, e8, c5⟩ := c4.join (by simp; omega) q
  have e9 : (vs.map some ++ (t ++ σ)).set j (some u) = vs.map some ++ (t ++ σ) := set_get (by rw [List.getElem?_append_left (by simp [hl, lj]), List.getElem?_map, hv]; rfl)
  rw [List.set_append_left _ _ (by simpa using lj), e9] at c5
  refine k vs H' (by simp [hl]) (fun p hp => ?_) ⟨G, F5, f.perm ?_, by simpa [List.map_set] using c5⟩
  · rcases List.mem_cons.mp hp with hp | hp
    · subst hp; exact ⟨hv, e5⟩
    · exact hls p hp
  · exact (e2.trans (by simpa using e6)).trans e8.symm
theorem Frm.sub {E : Ent} {G H : Hp} {F F1 : List Addr} (h : Frm E G H F) (n : F1.Nodup) (p : ∀ b ∈ F1, b ∈ F) : Frm E G H F1 :=
  ⟨h.gg, h.gh, n, fun b hb => h.dis b (p b hb), fun b hb => h.live b (p b hb), h.keep, fun b hb => h.fp b (p b hb), h.gn⟩
/-- the lent things go back, from the arguments' cells -/
theorem cs_backs {G H : Hp} {T : Cl} {t σ : L2.St} {vs : List V} (l : T.length = t.length) : ∀ (ls : List (Nat × Nat × V)) (P ρ : Cl) (F : List Addr), P.length = vs.length → (ls.map (·.1)).Nodup → (∀ p ∈ ls, vs[p.1]? = some p.2.2 ∧ σ[p.2.1]? = some (some p.2.2) ∧ ρ[p.2.1]? = some none) → (ls.map (·.2.1)).Nodup →
    Cs G H (P ++ (T ++ ρ)) (vs.map some ++ (t ++ σ)) F → F.Nodup → ∃ F1, F1.Nodup ∧ (∀ b ∈ F1, b ∈ F) ∧ Cs G H (T ++ backs P ls ρ) (t ++ σ) F1
  | [], P, ρ, F, hl, _, _, _, c, nF => by
    obtain ⟨F1, F2, e1, c1, c2⟩ := c.unappend (by simp [hl])
    subst e1
    exact ⟨F2, (List.nodup_append.mp nF).2.1, fun b hb => List.mem_append_right _ hb, c2⟩
  | (j, i, v) :: ls, P, ρ, F, hl, nd, hp, nd2, c, nF => by
    obtain ⟨h1, h2, h4⟩ := hp (j, i, v) (by simp)
    have nd1 := (List.nodup_cons.mp nd)
    have nd3 := (List.nodup_cons.mp nd2)
    have hp1 : ∀ p ∈ ls, vs[p.1]? = some p.2.2 ∧ σ[p.2.1]? = some (some p.2.2) ∧ ρ[p.2.1]? = some none := fun p h => hp p (List.mem_cons_of_mem _ h)
    have lj : j < P.length := by rw [hl]; exact lt_of_get h1
    cases hP : P[j]? with
    | none => rw [List.getElem?_eq_none_iff] at hP; omega
    | some o =>
      cases o with
      | none =>
        obtain ⟨F1, a, b, c1⟩ := cs_backs l ls P ρ F hl nd1.2 hp1 nd3.2 c nF
        refine ⟨F1, a, b, ?_⟩
        unfold backs
        rw [hP]
        exact c1
      | some A =>
        obtain ⟨w, F1, F2, e1, e2, q, c1⟩ := c.split (i := j) (A := A) (by rw [List.getElem?_append_left lj, hP])
        rw [List.set_append_left _ _ lj] at c1
        have ev : w = v := by
          rw [List.getElem?_append_left (by simp; omega), List.getElem?_map, h1] at e1
          cases e1; rfl
        subst ev
        have nF2 := (e2.nodup_iff).mp nF
        obtain ⟨m1, m2, m3⟩ := List.nodup_append.mp nF2
        obtain ⟨F3, a, b, c2⟩ := cs_backs l ls (P.set j none) ρ F2 (by simpa using hl) nd1.2 hp1 nd3.2 c1 m2
        have eb : backs (P.set j none) ls ρ = backs P ls ρ := by
          have key : ∀ l2 : List (Nat × Nat × V), (∀ p ∈ l2, p.1 ≠ j) → backs (P.set j none) l2 ρ = backs P l2 ρ := fun l2 => by
            induction l2 with
            | nil => intro _; rfl
            | cons p l2 ih =>
              intro hj
              obtain ⟨j2, i2, v2⟩ := p
              have n : j2 ≠ j := hj (j2, i2, v2) (by simp)
              unfold backs
              rw [List.getElem?_set_ne (fun z => n z.symm), ih fun p hp => hj p (List.mem_cons_of_mem _ hp)]
          exact key ls fun p hp z => nd1.1 (List.mem_map.mpr ⟨p, hp, z⟩)
        rw [eb] at c2
        have fr : ∀ l2 : List (Nat × Nat × V), (∀ p ∈ l2, p.2.1 ≠ i) → (backs P l2 ρ)[i]? = some none := fun l2 => by
          induction l2 with
          | nil => intro _; exact h4
          | cons p l2 ih =>
            intro hi
            obtain ⟨j2, i2, v2⟩ := p
            have n : i2 ≠ i := hi (j2, i2, v2) (by simp)
            have q := ih fun p hp => hi p (List.mem_cons_of_mem _ hp)
            unfold backs
            split
            · rw [List.getElem?_set_ne n]; exact q
            · exact q
        have g1 := fr ls fun p hp z => nd3.1 (List.mem_map.mpr ⟨p, hp, z⟩)
        have c3 : Cs G H (T ++ (backs P ls ρ).set i none) (t ++ σ) F3 := by rw [set_get g1]; exact c2
        obtain ⟨F4, e4, c4⟩ := c3.back l (lt_of_get g1) h2 (A := pin w A) (F1 := F1) ⟨rfl, q⟩
        refine ⟨F4, (e4.nodup_iff).mpr (List.nodup_append.mpr ⟨m1, a, fun x hx y hy => m3 x hx y (b y hy)⟩), fun x hx => ?_, ?_⟩
        · refine e2.mem_iff.mpr (List.mem_append.mpr ?_)
          rcases List.mem_append.mp (e4.mem_iff.mp hx) with z | z
          · exact .inl z
          · exact .inr (b x z)
        · unfold backs
          rw [hP]
          exact c4
/-- f(a, ..) -/
theorem xe_call {k : Nat} {x : Str} {xx : δ} {r : γ} {ρo : Cl} (C : Cal X.prog X.w X.K X.mg X.base k x (SpM pre m post ret)) (hr : Room k X.A) (hm : m xx = some r) (ha : XL X (e :: es) ρ ρ1 (pre xx) ls)
    (hP : (post xx r).length = (pre xx).length) (n1 : (ls.map (·.1)).Nodup) (n2 : (ls.map (·.2.1)).Nodup) (hls : ∀ p ∈ ls, ρ1[p.2.1]? = some none) (hA : ret xx r = A) (ho : backs (post xx r) ls ρ1 = ρo)
    (hg : Gl X x := by rfl) (hdb : (x == ("__debug__" : Str)) = false := by decide) (he : starEach (e :: es) X.env = (false, eval e X.env) :: starEach es X.env := by rfl) (hpl : (backTo pos (starEach es X.env)).any (·.1) = false := by rfl) :
    XE X (.Call (.Name x p) (e :: es) [] pos) ρ ρo A := fun E T t σ H l st Q kk => by
  subst hA ho
  obtain ⟨f, fd, ps, F, h1, h2, h3⟩ := C.ex
  refine wE.of (pe_call F hr hg h1 h2 h3 .nil pass0 paS hdb he hpl) (ha E T t σ H l st _ fun vs H' hl hv st' => ?_)
  obtain ⟨G, F, f, c⟩ := st'
  obtain ⟨F1, F2, e1, c1, c2⟩ := c.unappend (by simp [hl])
  subst e1
  rw [List.append_nil]
  refine ⟨xx, r, G, F1, hm, (f.less (List.sublist_append_left _ _)).start, c1, hl, fun v H2 st2 => kk v H2 ?_⟩
  obtain ⟨G2, F3, f3, w, F4, F5, e2, e3, q, c3⟩ := st2
  cases e2
  subst e3
  obtain ⟨f4, keep⟩ := f.step (Fa := F1) (Fr := F2) (.refl _) f3
  have c4 : Cs G2 H2 (T ++ ρ1) (t ++ σ) F2 := c2.mono f3.gg f3.gh keep
  have c5 := c3.append c4
  have n5 : (F4 ++ (F5 ++ F2)).Nodup := by rw [← List.append_assoc]; exact f4.nd
  obtain ⟨m1, m2, m3⟩ := List.nodup_append.mp n5
  obtain ⟨F6, a, b, c6⟩ := cs_backs l ls (post xx r) ρ1 _ (hP.trans hl.symm) n1 (fun p hp => ⟨(hv p hp).1, (hv p hp).2, hls p hp⟩) n2 c5 m2
  exact ⟨G2, F4 ++ F6, f4.sub (List.nodup_append.mpr ⟨m1, a, fun x hx y hy => m3 x hx y (b y hy)⟩) (fun x hx => by
    rw [List.append_assoc]
    rcases List.mem_append.mp hx with z | z
    · exact List.mem_append_left _ z
    · exact List.mem_append_right _ (b x z)), v, F4, F6, rfl, rfl, q, c6⟩
end

/-! ### calls of built-ins -/
section
variable {X : Cx} {ρ ρ1 ρ2 ρ3 : Cl} {a b c e : Expr} {es : List Expr} {pos p : Pos} {A B : OA} {As : List OA} {d : PyData} {ds : List PyData}
theorem xe_callB {id : String} {x : Str} {r : List V → Hp → VK → Prop} (hc : CallR X (.builtin id) r) (ha : XA X (e :: es) ρ ρ1 As)
    (hr : ∀ E T t σ vs H Q, T.length = t.length → vs.length = As.length → ST E (As.map some ++ (T ++ ρ1)) (vs.map some ++ (t ++ σ)) H → (∀ v H', ST E (some B :: (T ++ ρ1)) (some v :: (t ++ σ)) H' → Q v H') → r vs H Q)
    (hm : X.mg x = none) (hv : bootBuiltins x = some (.builtin id)) (hg : Gl X x := by rfl) (hn : x ≠ "__name__" := by decide) (hdb : (x == ("__debug__" : Str)) = false := by decide)
    (he : starEach (e :: es) X.env = (false, eval e X.env) :: starEach es X.env := by rfl) (hpl : (backTo pos (starEach es X.env)).any (·.1) = false := by rfl) : XE X (.Call (.Name x p) (e :: es) [] pos) ρ ρ1 B := fun E T t σ H l st Q k =>
  wE.of (pe_callB hc hg hm hv paS hn hdb he hpl) (ha E T t σ H l st _ fun vs H' hl st' => hr E T t σ vs H' Q l hl st' k)
theorem xe_callTy {id : String} {x : Str} {r : List V → Hp → VK → Prop} (hc : CallR X (.type id) r) (ha : XA X (e :: es) ρ ρ1 As)
    (hr : ∀ E T t σ vs H Q, T.length = t.length → vs.length = As.length → ST E (As.map some ++ (T ++ ρ1)) (vs.map some ++ (t ++ σ)) H → (∀ v H', ST E (some B :: (T ++ ρ1)) (some v :: (t ++ σ)) H' → Q v H') → r vs H Q)
    (hm : X.mg x = none) (hv : bootBuiltins x = some (.type id)) (hg : Gl X x := by rfl) (hn : x ≠ "__name__" := by decide) (hdb : (x == ("__debug__" : Str)) = false := by decide)
    (he : starEach (e :: es) X.env = (false, eval e X.env) :: starEach es X.env := by rfl) (hpl : (backTo pos (starEach es X.env)).any (·.1) = false := by rfl) : XE X (.Call (.Name x p) (e :: es) [] pos) ρ ρ1 B := fun E T t σ H l st Q k =>
  wE.of (pe_callTy hc hg hm hv paS hn hdb he hpl) (ha E T t σ H l st _ fun vs H' hl st' => hr E T t σ vs H' Q l hl st' k)
theorem vs1 {vs : List V} (h : vs.length = 1) : ∃ v, vs = [v] := by
  match vs, h with
  | [v], _ => exact ⟨v, rfl⟩
theorem vs2 {vs : List V} (h : vs.length = 2) : ∃ v w, vs = [v, w] := by
  match vs, h with
  | [v, w], _ => exact ⟨v, w, rfl⟩
theorem xe_len {n : Nat} (ha : XE X a ρ ρ1 A) (r : Rsq X.K ρ1 A n) (hm : X.mg "len" = none) (hg : Gl X "len" := by rfl) (hs : starEach [a] X.env = [(false, eval a X.env)] := by rfl) (hpl : (backTo pos (starEach [] X.env)).any (·.1) = false := by rfl) : XE X (.Call (.Name "len" p) [a] [] pos) ρ ρ1 (aD X.K (.int n)) :=
  xe_callB call_len_seq (xa_cons ha xa_nil hs) (fun E T t σ vs H Q l hl st k => by
    obtain ⟨v, rfl⟩ := vs1 hl
    obtain ⟨G, F, Fv, f, cs, q⟩ := ST.one st
    obtain ⟨p, xs, e1, e2, e3⟩ := r l cs f.gh q
    exact ⟨p, xs, by rw [e1], e2, by rw [e3]; exact k _ H (ST.put f cs (.int _))⟩) hm PySem.boot_len hg (by decide) (by decide) hs hpl
theorem xe_int1 {i : Int} (ha : XE X a ρ ρ1 (aD X.K (.int i))) (hm : X.mg "int" = none) (hg : Gl X "int" := by rfl) (hs : starEach [a] X.env = [(false, eval a X.env)] := by rfl) (hpl : (backTo pos (starEach [] X.env)).any (·.1) = false := by rfl) : XE X (.Call (.Name "int" p) [a] [] pos) ρ ρ1 (aD X.K (.int i)) :=
  xe_callTy call_int1 (xa_cons ha xa_nil hs) (fun E T t σ vs H Q l hl st k => by
    obtain ⟨v, rfl⟩ := vs1 hl
    obtain ⟨G, F, f, cs, q⟩ := ST.top st
    cases q
    exact .inl ⟨i, rfl, k _ H (ST.put f cs (.int _))⟩) hm (by decide +kernel) hg (by decide) (by decide) hs hpl
theorem xe_int1b {i : Bool} (ha : XE X a ρ ρ1 (aD X.K (.bool i))) (hm : X.mg "int" = none) (hg : Gl X "int" := by rfl) (hs : starEach [a] X.env = [(false, eval a X.env)] := by rfl) (hpl : (backTo pos (starEach [] X.env)).any (·.1) = false := by rfl) : XE X (.Call (.Name "int" p) [a] [] pos) ρ ρ1 (aD X.K (.int (if i then 1 else 0))) :=
  xe_callTy call_int1 (xa_cons ha xa_nil hs) (fun E T t σ vs H Q l hl st k => by
    obtain ⟨v, rfl⟩ := vs1 hl
    obtain ⟨G, F, f, cs, q⟩ := ST.top st
    cases q
    exact .inr ⟨i, rfl, k _ H (ST.put f cs (.int _))⟩) hm (by decide +kernel) hg (by decide) (by decide) hs hpl
theorem xe_abs {i : Int} (ha : XE X a ρ ρ1 (aD X.K (.int i))) (hm : X.mg "abs" = none) (hg : Gl X "abs" := by rfl) (hs : starEach [a] X.env = [(false, eval a X.env)] := by rfl) (hpl : (backTo pos (starEach [] X.env)).any (·.1) = false := by rfl) : XE X (.Call (.Name "abs" p) [a] [] pos) ρ ρ1 (aD X.K (.int (if i < 0 then -i else i))) :=
  xe_callB call_abs (xa_cons ha xa_nil hs) (fun E T t σ vs H Q l hl st k => by
    obtain ⟨v, rfl⟩ := vs1 hl
    obtain ⟨G, F, f, cs, q⟩ := ST.top st
    cases q
    exact ⟨i, rfl, k _ H (ST.put f cs (.int _))⟩) hm (by decide +kernel) hg (by decide) (by decide) hs hpl
variable {i j : Int}
theorem xe_max2 (hc : X.calm = true) (ha : XE X a ρ ρ1 (aD X.K (.int i))) (hb : XE X b ρ1 ρ2 (aD X.K (.int j))) (hm : X.mg "max" = none) (hg : Gl X "max" := by rfl) (hs : starEach [a, b] X.env = (false, eval a X.env) :: starEach [b] X.env := by rfl) (hs2 : starEach [b] X.env = [(false, eval b X.env)] := by rfl) (hpl : (backTo pos (starEach [b] X.env)).any (·.1) = false := by rfl) :
    XE X (.Call (.Name "max" p) [a, b] [] pos) ρ ρ2 (aD X.K (.int (max i j))) :=
  xe_callB (call_max2 hc) (xa_cons ha (xa_cons hb xa_nil hs2) hs) (fun E T t σ vs H Q l hl st k => by
    obtain ⟨v, w, rfl⟩ := vs2 hl
    obtain ⟨G, F, f, cs, q⟩ := ST.args (ds := [.int i, .int j]) rfl st
    cases q with
    | cons q1 q => cases q with
      | cons q2 q =>
        cases q1
        cases q2
        refine ⟨i, j, rfl, ?_⟩
        have e : (if j > i then j else i) = max i j := by rw [Int.max_def]; split <;> split <;> omega
        rw [e]
        exact k _ H (ST.put f cs (.int _))) hm (by decide +kernel) hg (by decide) (by decide) hs hpl
theorem xe_min2 (hc : X.calm = true) (ha : XE X a ρ ρ1 (aD X.K (.int i))) (hb : XE X b ρ1 ρ2 (aD X.K (.int j))) (hm : X.mg "min" = none) (hg : Gl X "min" := by rfl) (hs : starEach [a, b] X.env = (false, eval a X.env) :: starEach [b] X.env := by rfl) (hs2 : starEach [b] X.env = [(false, eval b X.env)] := by rfl) (hpl : (backTo pos (starEach [b] X.env)).any (·.1) = false := by rfl) :
    XE X (.Call (.Name "min" p) [a, b] [] pos) ρ ρ2 (aD X.K (.int (min i j))) :=
  xe_callB (call_min2 hc) (xa_cons ha (xa_cons hb xa_nil hs2) hs) (fun E T t σ vs H Q l hl st k => by
    obtain ⟨v, w, rfl⟩ := vs2 hl
    obtain ⟨G, F, f, cs, q⟩ := ST.args (ds := [.int i, .int j]) rfl st
    cases q with
    | cons q1 q => cases q with
      | cons q2 q =>
        cases q1
        cases q2
        refine ⟨i, j, rfl, ?_⟩
        have e : (if j < i then j else i) = min i j := by rw [Int.min_def]; split <;> split <;> omega
        rw [e]
        exact k _ H (ST.put f cs (.int _))) hm (by decide +kernel) hg (by decide) (by decide) hs hpl
/-- list(xs): a new list -/
theorem xe_list (ha : XE X a ρ ρ1 A) (r : Rls X.K ρ1 A ds) (hm : X.mg "list" = none) (hg : Gl X "list" := by rfl) (hs : starEach [a] X.env = [(false, eval a X.env)] := by rfl) (hpl : (backTo pos (starEach [] X.env)).any (·.1) = false := by rfl) : XE X (.Call (.Name "list" p) [a] [] pos) ρ ρ1 (aLD X.K ds) :=
  xe_callTy call_list_of (xa_cons ha xa_nil hs) (fun E T t σ vs H Q l hl st k => by
    obtain ⟨v, rfl⟩ := vs1 hl
    obtain ⟨G, F, Fv, f, cs, q⟩ := ST.one st
    obtain ⟨p, xs, e1, e2, e3⟩ := r l cs f.gh q
    exact ⟨p, xs, by rw [e1], .inl e2, fun p hp => k _ _ (ST.newL f cs hp e3)⟩) hm (by decide +kernel) hg (by decide) (by decide) hs hpl
theorem xe_listT (ha : XE X a ρ ρ1 A) (r : Rtu X.K ρ1 A ds) (hm : X.mg "list" = none) (hg : Gl X "list" := by rfl) (hs : starEach [a] X.env = [(false, eval a X.env)] := by rfl) (hpl : (backTo pos (starEach [] X.env)).any (·.1) = false := by rfl) : XE X (.Call (.Name "list" p) [a] [] pos) ρ ρ1 (aLD X.K ds) :=
  xe_callTy call_list_of (xa_cons ha xa_nil hs) (fun E T t σ vs H Q l hl st k => by
    obtain ⟨v, rfl⟩ := vs1 hl
    obtain ⟨G, F, Fv, f, cs, q⟩ := ST.one st
    obtain ⟨p, xs, e1, e2, e3⟩ := r l cs f.gh q
    exact ⟨p, xs, by rw [e1], .inr e2, fun p hp => k _ _ (ST.newL f cs hp e3)⟩) hm (by decide +kernel) hg (by decide) (by decide) hs hpl
theorem ints_eq {K : PySem.W.Frag} {G : Hp} : ∀ {ns : List Int} {vs : List V}, DqAll K G vs (ns.map PyData.int) → vs = ns.map V.int
  | [], _, h => by cases h; rfl
  | n :: ns, _, h => by
    cases h with
    | cons h1 h2 =>
      cases h1
      rw [ints_eq h2]
      rfl
theorem xe_sum {ns : List Int} (hc : X.calm = true) (ha : XE X a ρ ρ1 A) (r : Rls X.K ρ1 A (ns.map PyData.int)) (hm : X.mg "sum" = none) (hg : Gl X "sum" := by rfl) (hs : starEach [a] X.env = [(false, eval a X.env)] := by rfl) (hpl : (backTo pos (starEach [] X.env)).any (·.1) = false := by rfl) : XE X (.Call (.Name "sum" p) [a] [] pos) ρ ρ1 (aD X.K (.int ns.sum)) :=
  xe_callB (cr_sum hc) (xa_cons ha xa_nil hs) (fun E T t σ vs H Q l hl st k => by
    obtain ⟨v, rfl⟩ := vs1 hl
    obtain ⟨G, F, Fv, f, cs, q⟩ := ST.one st
    obtain ⟨p, xs, e1, e2, e3⟩ := r l cs f.gh q
    have e4 := ints_eq e3
    subst e4
    exact ⟨p, ns, by rw [e1], e2, k _ H (ST.put f cs (.int _))⟩) hm (by decide +kernel) hg (by decide) (by decide) hs hpl
end
end Mr

set_option Elab.async false
set_option linter.all false
set_option maxRecDepth 100000
namespace Mr
open PySem PySem.Spec PyProof.Rows L2

/-! ### owned lists that are changed -/
theorem ST.modL {E : Ent} {T ρ : Cl} {t σ : L2.St} {H : Hp} {B : OA} {y v0 : V} {i : Nat} {As : List OA} (l : T.length = t.length) (st : ST E (some B :: (T ++ ρ)) (some y :: (t ++ σ)) H) (hi : ρ[i]? = some (some (pin v0 (aL As)))) :
    ∃ p vs, v0 = .ref p ∧ H p = some (.lst vs) ∧ vs.length = As.length ∧ ∀ (As' : List OA) (vs' : List V),
      (∀ G H F1 F2, Cs G H (As.map some) (vs.map some) F1 → B.P G H y F2 → ∃ F3, (∀ b ∈ F3, b ∈ F1 ++ F2) ∧ ((F1 ++ F2).Nodup → F3.Nodup) ∧ Cs G H (As'.map some) (vs'.map some) F3) →
      ST E (T ++ ρ.set i (some (pin v0 (aL As')))) (t ++ σ) (upd H p (.lst vs')) := by
  obtain ⟨G, F, f, y', Fb, F0, e1, e2, hb, cs⟩ := st
  cases e1
  subst e2
  obtain ⟨v, F1, F2, e3, e4, ⟨e5, p, vs, F', e6, e7, h1, c1⟩, c2⟩ := cs.slot l hi
  subst e5 e6 e7
  refine ⟨p, vs, rfl, h1, by simpa using c1.len.symm, fun As' vs' k => ?_⟩
  have perm : (Fb ++ F0).Perm ((p :: (F' ++ Fb)) ++ F2) := by
    refine (List.Perm.append_left Fb e4).trans ?_
    have q : (Fb ++ (p :: F' ++ F2)).Perm ((p :: F' ++ F2) ++ Fb) := List.perm_append_comm
    refine q.trans ?_
    show (p :: (F' ++ F2 ++ Fb)).Perm (p :: ((F' ++ Fb) ++ F2))
    refine List.Perm.cons p ?_
    rw [List.append_assoc, List.append_assoc]
    exact List.Perm.append_left F' List.perm_append_comm
  have f1 := f.perm perm
  have f2 : Frm ⟨G, H, p :: (F' ++ Fb)⟩ G H (p :: (F' ++ Fb)) := (f1.less (List.sublist_append_left _ _)).start
  have f3 := Frm.write (o := .lst vs') f2
  have nd := f2.nd
  have np : ∀ b ∈ F' ++ Fb, b ≠ p := fun b hb z => by
    subst z
    exact (List.nodup_cons.mp nd).1 hb
  have keep : ∀ b ∈ F' ++ Fb, ∀ o, H b = some o → upd H p (.lst vs') b = some o := fun b hb o q => by rw [upd_ne (np b hb)]; exact q
  obtain ⟨F3, k1, k2, k3⟩ := k G (upd H p (.lst vs')) F' Fb (c1.mono (.refl _) f3.gh fun b hb => keep b (List.mem_append_left _ hb)) (B.mono hb (.refl _) f3.gh fun b hb => keep b (List.mem_append_right _ hb))
  have f4 : Frm ⟨G, H, p :: (F' ++ Fb)⟩ G (upd H p (.lst vs')) (p :: F3) := f3.sub (List.nodup_cons.mpr ⟨fun z => (List.nodup_cons.mp nd).1 (k1 p z), k2 (List.nodup_cons.mp nd).2⟩) fun b hb => by
    rcases List.mem_cons.mp hb with z | z
    · exact z ▸ List.mem_cons_self
    · exact List.mem_cons_of_mem _ (k1 b z)
  obtain ⟨f5, st5⟩ := f.step perm f4
  have c3 : Cs G (upd H p (.lst vs')) (T ++ ρ.set i none) (t ++ σ) F2 := c2.mono (.refl _) f5.gh st5
  obtain ⟨F6, e8, c4⟩ := c3.back l (lt_of_get hi) e3 (A := pin (.ref p) (aL As')) (F1 := p :: F3) ⟨rfl, p, vs', F3, rfl, rfl, upd_same, k3⟩
  exact ⟨G, F6, f5.perm e8.symm, c4⟩
theorem ST.drop2 {E : Ent} {A B : OA} {L : Cl} {C : L2.St} {H : Hp} {y x : Option V} (st : ST E (some B :: some A :: L) (y :: x :: C) H) : ST E (some B :: L) (y :: C) H := by
  obtain ⟨G, F, f, w, F1, F2, e1, e2, q, u, F3, F4, e3, e4, q2, c⟩ := st
  subst e4 e2
  exact ⟨G, F1 ++ F4, f.less (List.Sublist.append_left (List.sublist_append_right _ _) F1), w, F1, F4, e1, rfl, q, c⟩
theorem Cs.ofNil {G H : Hp} {A : OA} {y : V} {F : List Addr} (h : A.P G H y F) : Cs G H [some A] [some y] F := ⟨y, F, [], rfl, by simp, h, rfl⟩
/-- a list at a slot, for a method of lists -/
theorem ST.isL {X : Cx} {E : Ent} {T ρ : Cl} {t σ : L2.St} {H : Hp} {v0 v : V} {i : Nat} {As : List OA} (l : T.length = t.length) (st : ST E (some (aV v0) :: (T ++ ρ)) (some v :: (t ++ σ)) H) (hi : ρ[i]? = some (some (pin v0 (aL As)))) : v = v0 ∧ tyV X.K "list" v H := by
  obtain ⟨G, F, Fv, f, cs, e0, _⟩ := ST.one st
  obtain ⟨w, F1, F2, e3, e4, ⟨e5, p, vs, F', e6, e7, h1, c1⟩, c2⟩ := cs.slot l hi
  subst e0 e5 e6
  exact ⟨rfl, .inl ⟨rfl, vs, .inl (.inl h1)⟩⟩
section
variable {X : Cx} {ρ ρ1 ρ2 ρ3 : Cl} {a b c e o : Expr} {pos p apos cpos : Pos} {A B : OA} {As As0 : List OA} {d : PyData} {ds : List PyData} {v0 : V}
/-- xs.append(e) -/
theorem xe_append (i : Nat) (ho : XE X o ρ ρ (aV v0)) (h0 : ρ[i]? = some (some (pin v0 (aL As0)))) (he : XE X e ρ ρ1 B) (h1 : ρ1[i]? = some (some (pin v0 (aL As)))) (hz : As.length < sizeLine)
    (hbase : attributeBase o "append" X.env (eval o X.env) = eval o X.env := by rfl) (hfew : ((backTo cpos (starEach [e] X.env)).all (fun x => !x.1) && (backToKw cpos (keywordEach [] X.env)).all (fun x => x.1.isSome) && decide ([e].length + ([] : List Keyword).length + (if ([] : List Keyword).isEmpty then 0 else 1) < 30)) = true := by rfl)
    (hline : (apos.endLine == cpos.line) = true := by rfl) (hs : starEach [e] X.env = (false, eval e X.env) :: starEach [] X.env := by rfl) (hplain : (backTo cpos (starEach [] X.env)).any (·.1) = false := by rfl) :
    XE X (.Call (.Attribute o "append" apos) [e] [] cpos) ρ (ρ1.set i (some (pin v0 (aL (As ++ [B]))))) (aD X.K .none) := fun E T t σ H l st Q k =>
  wE.of (pe_bm PySem.F.plainAttrs_list PySem.F.slot_list_append PySem.F.type_list_append mt_append peS (pa_cons peS pa_nil hs) hbase hfew hline hs hplain) (ho E T t σ H l st _ fun x H1 st1 => by
    obtain ⟨e0, ty⟩ := ST.isL (X := X) l st1 h0
    subst e0
    refine ⟨ty, he E (_ :: T) (_ :: t) σ H1 (by simp [l]) st1 _ fun y H2 st2 => ?_⟩
    have st3 : ST E (some B :: (T ++ ρ1)) (some y :: (t ++ σ)) H2 := by
      exact ST.drop2 st2
    obtain ⟨p, vs, e1, h2, hl, go⟩ := ST.modL l st3 h1
    refine ⟨p, vs, y, e1, rfl, h2, by rw [hl]; exact hz, k _ _ ?_⟩
    have st4 := go (As ++ [B]) (vs ++ [y]) fun G H F1 F2 c q => ⟨F1 ++ F2, fun b hb => hb, fun n => n, by simpa using c.append (Cs.ofNil q)⟩
    obtain ⟨G, F, f, c⟩ := st4
    exact ST.put f c .non)
/-- of data -/
theorem xe_appendD {α : Type} {cv : α → PyData} {xs : List α} {x : α} (i : Nat) (ho : XE X o ρ ρ (aV v0)) (h0 : ρ[i]? = some (some (pin v0 (aL As0)))) (he : XE X e ρ ρ1 (aD X.K (cv x))) (h1 : ρ1[i]? = some (some (pin v0 (aLD X.K (xs.map cv))))) (hz : xs.length < sizeLine)
    (hbase : attributeBase o "append" X.env (eval o X.env) = eval o X.env := by rfl) (hfew : ((backTo cpos (starEach [e] X.env)).all (fun x => !x.1) && (backToKw cpos (keywordEach [] X.env)).all (fun x => x.1.isSome) && decide ([e].length + ([] : List Keyword).length + (if ([] : List Keyword).isEmpty then 0 else 1) < 30)) = true := by rfl)
    (hline : (apos.endLine == cpos.line) = true := by rfl) (hs : starEach [e] X.env = (false, eval e X.env) :: starEach [] X.env := by rfl) (hplain : (backTo cpos (starEach [] X.env)).any (·.1) = false := by rfl) :
    XE X (.Call (.Attribute o "append" apos) [e] [] cpos) ρ (ρ1.set i (some (pin v0 (aLD X.K ((xs ++ [x]).map cv))))) (aD X.K .none) := by
  have q := xe_append (apos := apos) (cpos := cpos) i ho h0 he h1 (by simpa using hz) hbase hfew hline hs hplain
  have e : (xs.map cv).map (aD X.K) ++ [aD X.K (cv x)] = ((xs ++ [x]).map cv).map (aD X.K) := by simp
  rwa [e] at q
theorem Cs.getP {G H : Hp} {A : OA} : ∀ {As : List OA} {vs : List V} {F : List Addr} {j : Nat}, Cs G H (As.map some) (vs.map some) F → As[j]? = some A → ∃ v F1 F2, vs[j]? = some v ∧ F.Perm (F1 ++ F2) ∧ A.P G H v F1 ∧ Cs G H ((As.map some).set j none) (vs.map some) F2 := fun {As vs F j} c h => by
  obtain ⟨v, F1, F2, e1, e2, q, c2⟩ := c.split (i := j) (A := A) (by rw [List.getElem?_map, h]; rfl)
  rw [List.getElem?_map] at e1
  cases hv : vs[j]? with
  | none => rw [hv] at e1; cases e1
  | some w =>
    rw [hv] at e1
    cases e1
    exact ⟨v, F1, F2, rfl, e2, q, c2⟩
theorem cs_set {G H : Hp} {As : List OA} {vs : List V} {y : V} {j : Nat} {F1 F2 : List Addr} (hj : j < As.length) (c : Cs G H (As.map some) (vs.map some) F1) (q : B.P G H y F2) : ∃ F3, (∀ b ∈ F3, b ∈ F1 ++ F2) ∧ ((F1 ++ F2).Nodup → F3.Nodup) ∧ Cs G H ((As.set j B).map some) ((vs.set j y).map some) F3 := by
  obtain ⟨F3, s, c1⟩ := c.forget (i := j) (x := none)
  obtain ⟨F4, p, c2⟩ := c1.join (by simpa using hj) q
  rw [set_set] at c2
  refine ⟨F4, fun b hb => ?_, fun n => ?_, by simpa [List.map_set] using c2⟩
  · rcases List.mem_append.mp (p.mem_iff.mp hb) with z | z
    · exact List.mem_append_right _ z
    · exact List.mem_append_left _ (s.subset z)
  · refine (p.nodup_iff).mpr ((List.perm_append_comm.nodup_iff).mp (n.sublist (List.Sublist.append_right s F2)))
/-- xs[n] = .. -/
theorem xp_setL (i : Nat) {j : Nat} {n : Int} (ho : XE X o ρ ρ (aV v0)) (hb : XE X b ρ ρ1 (aD X.K (.int n))) (h1 : ρ1[i]? = some (some (pin v0 (aL As)))) (hn : ixN As.length n = some j)
    (ha : ∀ v, assign (.Subscript o b pos) X.env v = (do
      let ov ← holding [v] (eval o X.env)
      let iv ← holding [v, ov] (eval b X.env)
      standAt pos
      holding [v, ov, iv] (setItem ov iv v)
      release [v, ov, iv] []) := by intro _; rfl) : XP X (.Subscript o b pos) B ρ (ρ1.set i (some (pin v0 (aL (As.set j B))))) := fun E T t σ H v l st Q k =>
  wG.of (pg_sub peS peS set_list ha) (ho E (_ :: T) (_ :: t) σ H (by simp [l]) st _ fun x H1 st1 => by
    refine hb E (_ :: _ :: T) (_ :: _ :: t) σ H1 (by simp [l]) st1 _ fun y H2 st2 => ?_
    obtain ⟨G, F, f, c, q1⟩ := ST.top st2
    cases q1
    obtain ⟨u, F1, F2, e1, e2, ⟨e3, e4⟩, c⟩ := c
    cases e1
    subst e4 e2 e3
    obtain ⟨p, vs, e5, h2, hl, go⟩ := ST.modL l ⟨G, _, f, c⟩ h1
    have hj : j < As.length := by
      unfold ixN at hn
      split at hn
      · split at hn
        · cases hn; omega
        · cases hn
      · split at hn
        · cases hn; omega
        · cases hn
    exact ⟨p, vs, n, j, e5, rfl, h2, by rw [hl]; exact hn, k _ _ (go _ _ fun G H F1 F2 c q => cs_set hj c q)⟩)
/-- xs[n] op= e: the item and e are ints -/
theorem get_list : PGet X (rIxL X.K) := by
  intro pins s σ H x y v u Q I rx ry h
  obtain ⟨p, xs, i, z, rfl, rfl, hq, he, q⟩ := h
  cases rx
  obtain ⟨t, rfl⟩ := ry
  obtain ⟨its, r, pl, hz⟩ := I.list hq
  obtain ⟨j, h1, h2, h3, h4, h5⟩ := atI_get he
  obtain ⟨w, ew, rw'⟩ := r.get h2
  have hl := r.length
  have hn := line63
  have fin : EP X pins σ Q w s := ⟨z, H, I, rw', q⟩
  by_cases h0 : 0 ≤ i
  · have hj : i.toNat = j := by
      rw [seqIndex_of h0 h5] at h1
      exact Option.some.inj h1
    exact wpAny_mono (wpAny_getItem_list (Q := fun r s' => r = w ∧ s' = s) pl.isList h0 (by omega) (by rw [hj]; simpa using ew) ⟨rfl, rfl⟩) (fun r s' ⟨e1, e2⟩ => by subst e1 e2; exact fin) fun _ _ h => h
  · have hj : (i + (its.toArray.size : Int)).toNat = j := by
      rw [seqIndex_neg (by omega) h4] at h1
      rw [List.size_toArray, ← hl]
      exact Option.some.inj h1
    exact wpAny_mono (wpAny_getItem_list_neg (Q := fun r s' => r = w ∧ s' = s) pl.isList (by omega) (by rw [List.size_toArray] <;> omega) (by omega) (by rw [hj]; simpa using ew) ⟨rfl, rfl⟩) (fun r s' ⟨e1, e2⟩ => by subst e1 e2; exact fin) fun _ _ h => h
theorem xg_augL {ω : Type} {rest : List Stmt} {m : Option ω} {Φ : ω → Ent → Ends → Prop} {op : Operator} {g : Int → Int → Int} {n x k : Int} {tpos : Pos} (i : Nat) {j : Nat} (hop : PIp X op (ipI g)) (ho : XE X o ρ ρ (aV v0)) (hb : XE X b ρ ρ (aD X.K (.int n))) (h1 : ρ[i]? = some (some (pin v0 (aL As)))) (hn : ixN As.length n = some j) (hx : As[j]? = some (aD X.K (.int x)))
    (he : XE X e ρ ρ1 (aD X.K (.int k))) (h2 : ρ1[i]? = some (some (pin v0 (aL As)))) (h : XG X rest (ρ1.set i (some (pin v0 (aL (As.set j (aD X.K (.int (g x k)))))))) m Φ)
    (ha : ∀ ov iv new, augStore b ov iv new = (do holding [new, ov, iv] (setItem ov iv new); release [new, ov, iv] []; pure .next) := by intros; rfl) : XG X (.AugAssign (.Subscript o b tpos) op e pos :: rest) ρ m Φ := fun r hr E σ H D st q =>
  wS.of (pss_cons (ps_augS peS peS get_list peS hop set_list ha) pssS) (ho E [] [] σ H rfl st _ fun v H1 st1 => hb E [_] [_] σ H1 rfl st1 _ fun w H2 st2 => by
    obtain ⟨G, F, f, c, q1⟩ := ST.top st2
    cases q1
    have st3 : ST E ρ σ H2 := ST.pop (A := aV v0) (x := some v) ⟨G, F, f, c⟩
    have ev : v = v0 := by
      obtain ⟨u, F1, F2, e1, e2, ⟨e3, e4⟩, c⟩ := c
      cases e1
      exact e3
    subst ev
    have st30 := st3
    obtain ⟨G, F, f, c⟩ := st30
    obtain ⟨v, F3, F4, e5, e6, ⟨e7, p, vs, F5, e8, e9, h3, c1⟩, c2⟩ := Cs.slot (T := []) (t := []) rfl c h1
    subst e7 e8
    obtain ⟨z, hz, hq⟩ := c1.getD hx
    cases hq
    have hl : vs.length = As.length := by simpa using c1.len.symm
    refine ⟨p, vs, n, .int x, rfl, rfl, .inl (.inl h3), by unfold atI; rw [hl, hn]; exact hz, he E [] [] σ H2 rfl st3 _ fun y H3 st4 => ?_⟩
    obtain ⟨G, F, f, c, q2⟩ := ST.top st4
    cases q2
    refine ⟨x, k, rfl, rfl, ?_⟩
    obtain ⟨p', vs', e10, h4, hl', go⟩ := ST.modL (T := []) (t := []) rfl (ST.put (K := X.K) (v := .int (g x k)) f c (.int _)) h2
    cases e10
    have hj : j < As.length := lt_of_get hx
    exact ⟨p, vs', n, j, rfl, rfl, h4, by rw [hl']; exact hn, h r hr E σ _ D (go _ _ fun G H F1 F2 c q => cs_set hj c q) q⟩)

/-! ### isinstance -/
def Rty (K : PySem.W.Frag) (ρ : Cl) (A : OA) (ty : String) : Prop := ∀ {G H : Hp} {T : Cl} {t σ : L2.St} {F Fv : List Addr} {v : V}, T.length = t.length → Cs G H (T ++ ρ) (t ++ σ) F → Ex G H → A.P G H v Fv → TyX K H v (.type ty)
def tyN : PyData → String
  | .none => "NoneType"
  | .bool _ => "bool"
  | .int _ => "int"
  | .str _ => "str"
  | .list _ => "list"
  | .tuple _ => "tuple"
  | .dict _ => "dict"
theorem sqt_ty {K : PySem.W.Frag} {H : Hp} {a : Addr} {xs : List V} (h : SqT K H a xs) : TyX K H (.ref a) (.type "tuple") := by
  rcases h with (h | ⟨o, h⟩) | ⟨o, its, n, h1, h2, h3, _, _⟩
  · exact .base (.tup h)
  · exact .fTuple h
  · exact .kTuple h1 h2
theorem sql_ty {K : PySem.W.Frag} {H : Hp} {a : Addr} {xs : List V} (h : SqL K H a xs) : TyX K H (.ref a) (.type "list") := by
  rcases h with (h | ⟨o, h⟩) | ⟨o, its, n, h1, h2, h3, _, _⟩
  · exact .base (.lst h)
  · exact .base (.frz h)
  · exact .kList h1 h2
theorem Dq.ty {K : PySem.W.Frag} {G : Hp} {v : V} (h : Dq K G v d) : TyX K G v (.type (tyN d)) := by
  cases h with
  | non => exact .base .non
  | bl b => exact .base (.bl b)
  | int i => exact .base (.int i)
  | str x => exact .base (.str x)
  | lst h1 h2 => exact .base (.lst h1)
  | tup h1 h2 => exact sqt_ty h1
theorem rty_data : Rty X.K ρ (aD X.K d) (tyN d) := fun l c e p => (Dq.mono e _ _ p.1).ty
theorem rty_list {ds : List PyData} (h : Rls X.K ρ A ds) : Rty X.K ρ A "list" := fun l c e p => by
  obtain ⟨a, xs, e1, e2, e3⟩ := h l c e p
  subst e1
  exact sql_ty e2
theorem xe_ty {x ty : String} (hm : X.mg x = none) (hv : bootBuiltins x = some (.type ty)) (hg : Gl X x := by rfl) (hn : (x : Str) ≠ "__name__" := by decide) (hd : ((x : Str) == ("__debug__" : Str)) = false := by decide) : XE X (.Name x pos) ρ ρ (aV (.ty ty)) := fun E T t σ H l st Q k => by
  obtain ⟨G, F, f, cs⟩ := st
  exact wE.of (pe_bltn (v := .ty ty) hg hm hv rfl hn hd) (k (.ty ty) H ⟨G, F, f, .ty ty, [], F, rfl, rfl, ⟨rfl, rfl⟩, cs⟩)
theorem xe_isi {T U : String} {k : Bool} (ha : XE X a ρ ρ1 A) (hb : XE X b ρ1 ρ1 (aV (.ty U))) (r : Rty X.K ρ1 A T) (hk : kitB T U = some k) (hm : X.mg "isinstance" = none) (hg : Gl X "isinstance" := by rfl) (hs : starEach [a, b] X.env = (false, eval a X.env) :: starEach [b] X.env := by rfl) (hs2 : starEach [b] X.env = [(false, eval b X.env)] := by rfl) (hpl : (backTo pos (starEach [b] X.env)).any (·.1) = false := by rfl) :
    XE X (.Call (.Name "isinstance" p) [a, b] [] pos) ρ ρ1 (aD X.K (.bool k)) :=
  xe_callB call_isi (xa_cons ha (xa_cons hb xa_nil hs2) hs) (fun E T t σ vs H Q l hl st kk => by
    obtain ⟨v, w, rfl⟩ := vs2 hl
    obtain ⟨G, F, f, c⟩ := st
    obtain ⟨v', F1, F2, e1, e2, q1, w', F3, F4, e3, e4, ⟨q2, _⟩, c⟩ := c
    cases e1
    cases e3
    subst q2 e2 e4
    exact ⟨v, _, _, _, k, rfl, .ty U, r l c f.gh q1, kit_ty hk, kk _ H (ST.put (f.less ((List.sublist_append_right _ _).trans (List.sublist_append_right _ _))) c (.bl _))⟩) hm (by decide +kernel) hg (by decide) (by decide) hs hpl
end
end Mr

set_option Elab.async false
set_option linter.all false
set_option maxRecDepth 100000
namespace Mr
open PySem PySem.Spec PyProof.Rows L2

/-! ### comprehensions: their mirrors -/
section
variable {α β δ : Type}
def compG (tb : β → α → Option Bool) (fe : β → α → Option (δ × β)) : List α → β → List δ → Option (List δ × β)
  | [], s, acc => some (acc, s)
  | x :: xs, s, acc => (tb s x).bind fun b => if b = true then (fe s x).bind fun o => compG tb fe xs o.2 (acc ++ [o.1]) else compG tb fe xs s acc
def mapL (f : α → Option δ) : List α → Option (List δ)
  | [] => some []
  | x :: xs => (f x).bind fun y => (mapL f xs).bind fun ys => some (y :: ys)
def fltL (t : α → Option Bool) (f : α → Option δ) : List α → Option (List δ)
  | [] => some []
  | x :: xs => (t x).bind fun b => if b = true then (f x).bind fun y => (fltL t f xs).bind fun ys => some (y :: ys) else fltL t f xs
def mapT (f : β → α → Option (δ × β)) : List α → β → Option (List δ × β)
  | [], s => some ([], s)
  | x :: xs, s => (f s x).bind fun o => (mapT f xs o.2).bind fun r => some (o.1 :: r.1, r.2)
/-- as comprehensions: at most a million turns -/
def mapO (f : α → Option δ) (xs : List α) : Option (List δ) := if xs.length ≤ 1000000 then mapL f xs else none
def fltO (t : α → Option Bool) (f : α → Option δ) (xs : List α) : Option (List δ) := if xs.length ≤ 1000000 then fltL t f xs else none
def mapS (f : β → α → Option (δ × β)) (xs : List α) (s : β) : Option (List δ × β) := if xs.length ≤ 1000000 then mapT f xs s else none
theorem compG_map {f : α → Option δ} : ∀ {xs : List α} {ys acc : List δ}, mapL f xs = some ys → compG (fun (_ : Unit) _ => some true) (fun _ x => (f x).map fun y => (y, ())) xs () acc = some (acc ++ ys, ())
  | [], ys, acc, h => by
    cases h
    simp [compG]
  | x :: xs, ys, acc, h => by
    unfold mapL at h
    cases h1 : f x with
    | none => rw [h1] at h; cases h
    | some y =>
      rw [h1] at h
      cases h2 : mapL f xs with
      | none => rw [h2] at h; cases h
      | some zs =>
        rw [h2] at h
        cases h
        have q := compG_map (acc := acc ++ [y]) h2
        unfold compG
        rw [h1]
        show compG _ _ xs () (acc ++ [y]) = _
        rw [q, List.append_assoc]
        rfl
theorem compG_flt {t : α → Option Bool} {f : α → Option δ} : ∀ {xs : List α} {ys acc : List δ}, fltL t f xs = some ys → compG (fun (_ : Unit) => t) (fun _ x => (f x).map fun y => (y, ())) xs () acc = some (acc ++ ys, ())
  | [], ys, acc, h => by
    cases h
    simp [compG]
  | x :: xs, ys, acc, h => by
    unfold fltL at h
    cases h0 : t x with
    | none => rw [h0] at h; cases h
    | some b =>
      rw [h0] at h
      cases b with
      | false =>
        have h : fltL t f xs = some ys := h
        have q := compG_flt (acc := acc) h
        unfold compG
        rw [h0]
        exact q
      | true =>
        have h : ((f x).bind fun y => (fltL t f xs).bind fun ys => some (y :: ys)) = some ys := h
        cases h1 : f x with
        | none => rw [h1] at h; cases h
        | some y =>
          rw [h1] at h
          cases h2 : fltL t f xs with
          | none => rw [h2] at h; cases h
          | some zs =>
            rw [h2] at h
            cases h
            have q := compG_flt (acc := acc ++ [y]) h2
            unfold compG
            rw [h0, h1]
            show compG _ _ xs () (acc ++ [y]) = _
            rw [q, List.append_assoc]
            rfl
theorem compG_mapT {f : β → α → Option (δ × β)} : ∀ {xs : List α} {s s1 : β} {ys acc : List δ}, mapT f xs s = some (ys, s1) → compG (fun _ _ => some true) f xs s acc = some (acc ++ ys, s1)
  | [], s, s1, ys, acc, h => by
    cases h
    simp [compG]
  | x :: xs, s, s1, ys, acc, h => by
    unfold mapT at h
    cases h1 : f s x with
    | none => rw [h1] at h; cases h
    | some o =>
      rw [h1] at h
      have h : ((mapT f xs o.2).bind fun r => some (o.1 :: r.1, r.2)) = some (ys, s1) := h
      cases h2 : mapT f xs o.2 with
      | none => rw [h2] at h; cases h
      | some r =>
        obtain ⟨r1, r2⟩ := r
        rw [h2] at h
        cases h
        have q := compG_mapT (acc := acc ++ [o.1]) h2
        unfold compG
        show ((f s x).bind fun o => compG _ f xs o.2 (acc ++ [o.1])) = _
        rw [h1]
        show compG _ f xs o.2 (acc ++ [o.1]) = _
        rw [q, List.append_assoc]
        rfl
end
theorem Cs.free {G H : Hp} {x : Option V} : ∀ {ρ : Cl} {σ : L2.St} {F : List Addr} {i : Nat}, Cs G H ρ (σ.set i x) F → ρ[i]? = some none → Cs G H ρ σ F
  | [], σ, F, i, c, h => by simp at h
  | none :: ρ, [], F, i, c, h => by cases i <;> exact c.elim
  | some A :: ρ, [], F, i, c, h => by cases i <;> exact c.elim
  | none :: ρ, y :: σ, F, 0, c, h => c
  | some A :: ρ, y :: σ, F, 0, c, h => by simp at h
  | none :: ρ, y :: σ, F, i + 1, c, h => Cs.free (ρ := ρ) (σ := σ) (i := i) c (by simpa using h)
  | some A :: ρ, y :: σ, F, i + 1, c, h => by
    obtain ⟨v, F1, F2, e1, e2, a, c⟩ := c
    exact ⟨v, F1, F2, e1, e2, a, c.free (by simpa using h)⟩
theorem Cs.freeT {G H : Hp} {x : Option V} {T ρ : Cl} {t σ : L2.St} {F : List Addr} {i : Nat} (l : T.length = t.length) (c : Cs G H (T ++ ρ) (t ++ σ.set i x) F) (h : ρ[i]? = some none) : Cs G H (T ++ ρ) (t ++ σ) F := by
  rw [← append_set_right, ← l] at c
  exact c.free (by rw [append_get_right]; exact h)
theorem Cs.forgetT {G H : Hp} {x : Option V} {T ρ : Cl} {t σ : L2.St} {F : List Addr} {i : Nat} (l : T.length = t.length) (c : Cs G H (T ++ ρ) (t ++ σ) F) : ∃ F', F'.Sublist F ∧ Cs G H (T ++ ρ.set i none) (t ++ σ.set i x) F' := by
  obtain ⟨F', s, q⟩ := c.forget (i := T.length + i) (x := x)
  rw [append_set_right, l, append_set_right] at q
  exact ⟨F', s, q⟩
theorem ST.wkT {E : Ent} {T ρ ρ' : Cl} {t σ : L2.St} {H : Hp} (l : T.length = t.length) (h : ST E (T ++ ρ) (t ++ σ) H) (w : Wk ρ ρ') : ST E (T ++ ρ') (t ++ σ) H := by
  obtain ⟨G, F, f, c⟩ := h
  obtain ⟨F1, F2, e, c1, c2⟩ := c.unappend l
  obtain ⟨F3, s, c3⟩ := c2.wk w
  subst e
  exact ⟨G, F1 ++ F3, f.less (List.Sublist.append_left s F1), c1.append c3⟩

/-! ### the rule -/
/-- elements and tests by their mirrors -/
def XEm (X : Cx) {ω : Type} (e : Expr) (ρ : Cl) (m : Option ω) (N : ω → Cl) (B : ω → OA) : Prop := ∀ o, m = some o → XE X e ρ (N o) (B o)
def XTm (X : Cx) (e : Expr) (ρ : Cl) (m : Option Bool) : Prop := ∀ k, m = some k → XT X e ρ ρ k
section
variable {X : Cx} {ρ ρ1 : Cl} {e tg iter elt c : Expr} {pos p : Pos} {ω α β δ : Type} {N : ω → Cl} {B : ω → OA}
theorem xem_bind {κ : Type} {m1 : Option κ} {k : κ → Option ω} (h : ∀ x, m1 = some x → XEm X e ρ (k x) N B) : XEm X e ρ (m1.bind k) N B := fun o ho => by
  cases hm : m1 with
  | none => rw [hm] at ho; cases ho
  | some x => rw [hm] at ho; exact h x hm o ho
theorem xem_lett {κ : Type} {v : κ} {k : κ → Option ω} (h : ∀ x, v = x → XEm X e ρ (k x) N B) : XEm X e ρ (lett v k) N B := h v rfl
theorem xem_some {o : ω} (h : XE X e ρ (N o) (B o)) : XEm X e ρ (some o) N B := fun _ ho => by cases ho; exact h
theorem xtm_bind {κ : Type} {m1 : Option κ} {k : κ → Option Bool} (h : ∀ x, m1 = some x → XTm X e ρ (k x)) : XTm X e ρ (m1.bind k) := fun o ho => by
  cases hm : m1 with
  | none => rw [hm] at ho; cases ho
  | some x => rw [hm] at ho; exact h x hm o ho
theorem xtm_lett {κ : Type} {v : κ} {k : κ → Option Bool} (h : ∀ x, v = x → XTm X e ρ (k x)) : XTm X e ρ (lett v k) := h v rfl
theorem xtm_some {k : Bool} (h : XT X e ρ ρ k) : XTm X e ρ (some k) := fun _ ho => by cases ho; exact h

theorem Wk.refl : ∀ ρ : Cl, Wk ρ ρ
  | [] => trivial
  | none :: l => Wk.refl l
  | some _ :: l => ⟨rfl, Wk.refl l⟩
abbrev blkX (X : Cx) (scope : Scope) (s0 : Shared) (H0 : Hp) (C : Addr) (cl : List (Str × Addr)) (fp : List Addr) : Cx := X.blk s0 H0 scope (compEnvC scope cl C X.env) fp
/-- the loop of a comprehension with one name as its target -/
theorem lc_core1 {Ok : Cl → Prop} {xs : List α} {cv : α → OA} {N : β → Cl} {tb : β → α → Option Bool} {fe : β → α → Option (δ × β)} {s0 : β} {el : δ → OA} {i : Nat} {E E' : Ent} {T : Cl} {t σ : L2.St} {H1 : Hp} {D : Addr} {J : It} {tt : TT} {te : TE} {Qd : Hp → Prop} {r : List δ × β}
    (l : T.length = t.length) (hr : compG tb fe xs s0 [] = some r) (hz : xs.length ≤ 1000000) (hD : H1 D = none) (st : ST E' (T ++ ρ1) (t ++ σ) H1) (gv : Gives J E' Ok xs cv) (hw : Wk (ρ1.set i none) (N s0)) (hok : ∀ s, Ok (N s)) (hN : ∀ s, (N s)[i]? = some none)
    (ht : ∀ x s k, tb s x = some k → ∀ (T : Cl) (t σ : L2.St) (H : Hp), T.length = t.length → ST E' (T ++ (N s).set i (some (cv x))) (t ++ σ) H → ∀ Q : Bool → Hp → Prop, (∀ H', ST E' (T ++ (N s).set i (some (cv x))) (t ++ σ) H' → Q k H') → tt σ H Q)
    (he : ∀ x s y s', fe s x = some (y, s') → ∃ ρ2, Wk (ρ2.set i none) (N s') ∧ ∀ (T : Cl) (t σ : L2.St) (H : Hp), T.length = t.length → ST E' (T ++ (N s).set i (some (cv x))) (t ++ σ) H → ∀ Q : VK, (∀ v H', ST E' (some (el y) :: (T ++ ρ2)) (some v :: (t ++ σ)) H' → Q v H') → te σ H Q)
    (hd : ∀ H', ST E' (some (pin (.ref D) (aL (r.1.map el))) :: (T ++ N r.2)) (some (.ref D) :: (t ++ σ.set i none)) H' → Qd H') :
    ∃ W : Nat → Nat → Hp → Prop, (∃ m, W 0 m (upd H1 D (.lst []))) ∧ ∀ n m H, W n m H →
      (J.stop n H ∧ Qd H) ∨ (J.go n H ∧ ∃ Nx : Hp → Prop, (∀ H', Nx H' → ∃ m', m' < m ∧ W (n + 1) m' H') ∧ ∀ x H', J.yld n H x H' → gName i x (wipe σ [i]) H' fun σ2 H2 => wipe σ2 [i] = wipe σ [i] ∧ tt σ2 H2 fun b H3 =>
        if b = true then te σ2 H3 fun y H4 => ∃ acc, H4 D = some (.lst acc) ∧ acc.length < sizeLine ∧ Nx (upd H4 D (.lst (acc ++ [y]))) else Nx H3) := by
  refine ⟨fun n m H => m = xs.length - n ∧ n ≤ xs.length ∧ ∃ s acc, acc.length ≤ n ∧ compG tb fe (xs.drop n) s acc = some r ∧ ST E' (some (pin (.ref D) (aL (acc.map el))) :: (T ++ N s)) (some (.ref D) :: (t ++ σ.set i none)) H, ⟨xs.length, by simp, Nat.zero_le _, s0, [], Nat.le_refl _, by simpa using hr, ?_⟩, ?_⟩
  · obtain ⟨G, F, f, c⟩ := st
    obtain ⟨f1, keep⟩ := f.step (Fa := []) (Fr := F) (by simp) (Frm.alloc (o := .lst []) f.gh hD)
    have c1 := c.mono (.refl _) f1.gh keep
    obtain ⟨F', s, c2⟩ := c1.forgetT (x := none) (i := i) l
    obtain ⟨F1, F2, e, c3, c4⟩ := c2.unappend l
    obtain ⟨F3, s3, c5⟩ := c4.wk hw
    subst e
    refine ⟨G, [D] ++ (F1 ++ F3), f1.less (List.Sublist.append_left ((List.Sublist.append_left s3 F1).trans s) [D]), .ref D, [D], F1 ++ F3, rfl, rfl, ⟨rfl, D, [], [], rfl, rfl, upd_same, rfl⟩, c3.append c5⟩
  · rintro n m H ⟨rfl, hn, s, acc, hacc, hf, st⟩
    have l' : (some (pin (V.ref D) (aL (acc.map el))) :: T).length = (some (V.ref D) :: t).length := by simp [l]
    by_cases hlt : n < xs.length
    · have ed : xs.drop n = xs[n] :: xs.drop (n + 1) := List.drop_eq_getElem_cons hlt
      rw [ed] at hf
      have hf : ((tb s xs[n]).bind fun b => if b = true then (fe s xs[n]).bind fun o => compG tb fe (xs.drop (n + 1)) o.2 (acc ++ [o.1]) else compG tb fe (xs.drop (n + 1)) s acc) = some r := hf
      refine .inr ⟨gv.go n hlt (_ :: T) (_ :: t) _ _ _ l' (hok s) st, fun H' => ∃ s' acc', acc'.length ≤ n + 1 ∧ compG tb fe (xs.drop (n + 1)) s' acc' = some r ∧ ST E' (some (pin (.ref D) (aL (acc'.map el))) :: (T ++ N s')) (some (.ref D) :: (t ++ σ.set i none)) H',
        fun H' ⟨s', acc', q0, q1, q2⟩ => ⟨xs.length - (n + 1), by omega, rfl, hlt, s', acc', q0, q1, q2⟩, fun v H' y => ?_⟩
      have st1 := gv.yld n xs[n] v H H' (List.getElem?_eq_getElem hlt) (_ :: T) (_ :: t) _ _ l' (hok s) st y
      have st2 := ST.assignT (i := i) l' st1 (lt_of_get (hN s))
      show wipe ((wipe σ [i]).set i (some v)) [i] = wipe σ [i] ∧ _
      have ew : wipe σ [i] = σ.set i none := rfl
      refine ⟨by rw [ew]; show ((σ.set i none).set i (some v)).set i none = σ.set i none; rw [set_set, set_set], ?_⟩
      rw [ew]
      cases hb : tb s xs[n] with
      | none => rw [hb] at hf; cases hf
      | some b =>
        rw [hb] at hf
        refine ht xs[n] s b hb (_ :: T) (_ :: t) _ H' l' st2 _ fun H2 st3 => ?_
        have back : ∀ {s' : β} {acc' : List δ} {ρ2 : Cl} {H' : Hp}, Wk (ρ2.set i none) (N s') → ST E' (some (pin (.ref D) (aL (acc'.map el))) :: (T ++ ρ2)) (some (.ref D) :: (t ++ (σ.set i none).set i (some v))) H' → ST E' (some (pin (.ref D) (aL (acc'.map el))) :: (T ++ N s')) (some (.ref D) :: (t ++ σ.set i none)) H' := fun {s' acc' ρ2 H'} hw st => by
          obtain ⟨G, F, f, c⟩ := st
          obtain ⟨F', s, c2⟩ := Cs.forgetT (T := some (pin (.ref D) (aL (acc'.map el))) :: T) (t := some (.ref D) :: t) (x := none) (i := i) (by simp [l]) c
          rw [set_set, set_set] at c2
          exact ST.wkT (T := some (pin (.ref D) (aL (acc'.map el))) :: T) (t := some (.ref D) :: t) (by simp [l]) ⟨G, F', f.less s, c2⟩ hw
        cases b with
        | false =>
          have hf : compG tb fe (xs.drop (n + 1)) s acc = some r := hf
          refine ⟨s, acc, by omega, hf, ?_⟩
          exact back (by rw [set_set, set_get (hN s)]; exact Wk.refl _) st3
        | true =>
          have hf : ((fe s xs[n]).bind fun o => compG tb fe (xs.drop (n + 1)) o.2 (acc ++ [o.1])) = some r := hf
          cases hfe : fe s xs[n] with
          | none => rw [hfe] at hf; cases hf
          | some o =>
            obtain ⟨y, s'⟩ := o
            rw [hfe] at hf
            have hf : compG tb fe (xs.drop (n + 1)) s' (acc ++ [y]) = some r := hf
            obtain ⟨ρ2, hwk, hel⟩ := he xs[n] s y s' hfe
            refine hel (_ :: T) (_ :: t) _ H2 l' st3 _ fun yv H3 st4 => ?_
            obtain ⟨p, vs, e1, h2, hl, go⟩ := ST.modL (T := []) (t := []) (i := 0) rfl st4 rfl
            cases e1
            have hsz : vs.length < sizeLine := by
              rw [hl, List.length_map]
              exact Nat.lt_of_le_of_lt hacc (Nat.lt_of_lt_of_le hlt (Nat.le_trans hz (by decide)))
            refine ⟨vs, h2, hsz, s', acc ++ [y], by simp; omega, hf, back hwk ?_⟩
            have st5 := go ((acc ++ [y]).map el) (vs ++ [yv]) fun G H F1 F2 c q => ⟨F1 ++ F2, fun b hb => hb, fun n => n, by simpa using c.append (Cs.ofNil q)⟩
            exact st5
    · have e : n = xs.length := by omega
      subst e
      rw [List.drop_length] at hf
      cases hf
      exact .inl ⟨gv.stop (_ :: T) (_ :: t) _ _ _ l' (hok s) st, hd H st⟩
theorem lc_fin {E E' : Ent} {T ρ2 : Cl} {t σ : L2.St} {H : Hp} {D : Addr} {A : OA} {i : Nat} (l : T.length = t.length) (lt : Later E' E) (hi : ρ2[i]? = some none) (st : ST E' (some (pin (.ref D) A) :: (T ++ ρ2)) (some (.ref D) :: (t ++ σ.set i none)) H) : ST E (some A :: (T ++ ρ2)) (some (.ref D) :: (t ++ σ)) H := by
  refine lt _ _ _ ?_
  obtain ⟨G, F, f, v, F1, F2, e1, e2, ⟨_, a⟩, c⟩ := st
  cases e1
  exact ⟨G, F, f, _, F1, F2, rfl, e2, a, c.freeT l hi⟩
theorem mapO_eq {f : α → Option δ} {xs : List α} {ys : List δ} (h : mapO f xs = some ys) : xs.length ≤ 1000000 ∧ mapL f xs = some ys := by
  unfold mapO at h
  split at h
  · exact ⟨by assumption, h⟩
  · cases h
theorem fltO_eq {t : α → Option Bool} {f : α → Option δ} {xs : List α} {ys : List δ} (h : fltO t f xs = some ys) : xs.length ≤ 1000000 ∧ fltL t f xs = some ys := by
  unfold fltO at h
  split at h
  · exact ⟨by assumption, h⟩
  · cases h
theorem mapS_eq {f : β → α → Option (δ × β)} {xs : List α} {s : β} {r : List δ × β} (h : mapS f xs s = some r) : xs.length ≤ 1000000 ∧ mapT f xs s = some r := by
  unfold mapS at h
  split at h
  · exact ⟨by assumption, h⟩
  · cases h
def wEc (X : Cx) (scope : Scope) (e : Expr) : TE := fun σ H Q => ∀ s0 H0 C cl fp, wE (blkX X scope s0 H0 C cl fp) e σ H Q
def wTc (X : Cx) (scope : Scope) (e : Expr) : TT := fun σ H Q => ∀ s0 H0 C cl fp, wT (blkX X scope s0 H0 C cl fp) e σ H Q
variable {scope : Scope} {x : Str}
/-- the comprehension's value and what it leaves: for both of its rules -/
def XC (X : Cx) (x : Str) (p : Pos) (i : Nat) (elt iter : Expr) (ifs : List Expr) (scope : Scope) (ρ ρ' : Cl) (A : OA) : Prop := ∃ (tt : TT) (te : TE), (∀ s0 H0 C cl fp, PTs (blkX X scope s0 H0 C cl fp) ifs tt) ∧ (∀ s0 H0 C cl fp, PE (blkX X scope s0 H0 C cl fp) elt te) ∧
  ∀ (E : Ent) (T : Cl) (t σ : L2.St) (H : Hp), T.length = t.length → ST E (T ++ ρ) (t ++ σ) H → ∀ Q : VK, (∀ v H', ST E (some A :: (T ++ ρ')) (some v :: (t ++ σ)) H' → Q v H') → tLc (wI X (.Name x p) iter) (gName i) tt te [i] σ H Q
theorem xe_lc {i : Nat} {ρ' : Cl} {A : OA} {ifs : List Expr} (h : XC X x p i elt iter ifs scope ρ ρ' A) (hc : X.calm = true) (hN : X.N.Nodup) (ok : BlkOk X.N X.env.scope scope [(x, i)]) (hg : ∀ s0 H0 C cl fp, PG (blkX X scope s0 H0 C cl fp) (.Name x p) (gName i)) (hs : ∀ x, foldedSetIterable iter X.env x = pure x := by intro _; rfl) :
    XE X (.ListComp elt [⟨.Name x p, iter, ifs, 0⟩] scope pos) ρ ρ' A := fun E T t σ H l st Q k => by
  obtain ⟨tt, te, h1, h2, h3⟩ := h
  exact wE.of (pe_lc (own := [(x, i)]) (g := gName i) hc hN piS ok hg h1 h2 hs) (h3 E T t σ H l st Q k)
/-- y = [..] on one line -/
theorem xg_asgLc {i j : Nat} {ρ' : Cl} {A : OA} {ifs : List Expr} {y : Str} {py spos : Pos} {ω : Type} {rest : List Stmt} {m : Option ω} {Φ : ω → Ent → Ends → Prop} (h : XC X x p i elt iter ifs scope ρ ρ' A) (hy : X.N[j]? = some y) (hyl : X.env.scope.names.lookup y = some .local)
    (hsw : swapsWith (.ListComp elt [⟨.Name x p, iter, ifs, 0⟩] scope pos) (some (.Name y py)) spos.line X.env = pure true) (k : XG X rest (ρ'.set j (some A)) m Φ) (hl : j < ρ'.length) (hc : X.calm = true) (hN : X.N.Nodup) (ok : BlkOk X.N X.env.scope scope [(x, i)]) (hg : ∀ s0 H0 C cl fp, PG (blkX X scope s0 H0 C cl fp) (.Name x p) (gName i)) (hs : ∀ x, foldedSetIterable iter X.env x = pure x := by intro _; rfl) :
    XG X (.Assign [.Name y py] (.ListComp elt [⟨.Name x p, iter, ifs, 0⟩] scope pos) spos :: rest) ρ m Φ := fun o ho E σ H D st q => by
  obtain ⟨tt, te, h1, h2, h3⟩ := h
  exact wS.of (pss_cons (ps_setLc (own := [(x, i)]) (g := gName i) hc hN hy hyl hsw piS ok hg h1 h2 hs) pssS) (h3 E [] [] σ H rfl st _ fun v H' st1 => k o ho E _ H' D (ST.assign st1 hl) q)
theorem xg_asgLcP {i j : Nat} {ρ' : Cl} {A : OA} {ifs : List Expr} {y : Str} {py spos : Pos} {ω : Type} {rest : List Stmt} {m : Option ω} {Φ : ω → Ent → Ends → Prop} (h : XC X x p i elt iter ifs scope ρ ρ' A) (hy : X.N[j]? = some y) (hyl : X.env.scope.names.lookup y = some .local)
    (hsw : swapsWith (.ListComp elt [⟨.Name x p, iter, ifs, 0⟩] scope pos) (some (.Name y py)) spos.line X.env = pure true) (k : ∀ v, XG X rest (ρ'.set j (some (pin v A))) m Φ) (hl : j < ρ'.length) (hc : X.calm = true) (hN : X.N.Nodup) (ok : BlkOk X.N X.env.scope scope [(x, i)]) (hg : ∀ s0 H0 C cl fp, PG (blkX X scope s0 H0 C cl fp) (.Name x p) (gName i)) (hs : ∀ x, foldedSetIterable iter X.env x = pure x := by intro _; rfl) :
    XG X (.Assign [.Name y py] (.ListComp elt [⟨.Name x p, iter, ifs, 0⟩] scope pos) spos :: rest) ρ m Φ :=
  xg_asgLc h hy hyl hsw (xg_pin j (List.getElem?_set_self hl) fun v => by rw [set_set]; exact k v) hl hc hN ok hg hs
theorem xc_imp {i : Nat} {ρ' : Cl} {A B : OA} {ifs : List Expr} (h : XC X x p i elt iter ifs scope ρ ρ' A) (e : A = B) : XC X x p i elt iter ifs scope ρ ρ' B := e ▸ h
theorem xc_frz {i : Nat} {ρ' : Cl} {ds : List PyData} {ifs : List Expr} (h : XC X x p i elt iter ifs scope ρ ρ' (aLD X.K ds)) : XC X x p i elt iter ifs scope ρ ρ' (aD X.K (.list ds)) := by
  obtain ⟨tt, te, h1, h2, h3⟩ := h
  refine ⟨tt, te, h1, h2, fun E T t σ H l st Q k => h3 E T t σ H l st Q fun v H' st1 => ?_⟩
  obtain ⟨G, F, f, w, F1, F2, e1, e2, ⟨p, vs, F', e3, e4, h1, c1⟩, cs⟩ := st1
  obtain ⟨q1, q2⟩ := csD c1
  cases e1
  subst e2 e3 e4 q2
  have g : G p = none := f.dis p (by simp)
  obtain ⟨f1, st⟩ := f.step (Fa := [p]) (Fr := F2) (by simp) (Frm.freeze f.gh g h1)
  exact k _ _ ⟨_, _, f1, .ref p, [], F2, rfl, rfl, ⟨.lst upd_same (DqAll.mono (.new g) _ _ q1), rfl⟩, by simpa using cs.mono (.new g) f1.gh st⟩
/-- [elt for x in iter], nothing is changed by it -/
theorem xc_mapO (i : Nat) {Ok : Cl → Prop} {xs : List α} {cv : α → OA} {f : α → Option δ} {el : δ → OA} {ys : List δ} (hm : mapO f xs = some ys) (hx : XI X (.Name x p) iter ρ ρ1 Ok xs cv) (hok : Ok (ρ1.set i none)) (hl : i < ρ1.length)
    (he : ∀ s0 H0 C cl fp x, XEm (blkX X scope s0 H0 C cl fp) elt (ρ1.set i (some (cv x))) (f x) (fun _ => ρ1.set i (some (cv x))) el) :
    XC X x p i elt iter [] scope ρ (ρ1.set i none) (aL (ys.map el)) := by
  refine ⟨tYes, wEc X scope elt, fun _ _ _ _ _ => pts_nil, fun s0 H0 C cl fp => ⟨fun pins s σ H Q I h => h s0 H0 C cl fp pins s I⟩, fun E T t σ H l st Q k => ?_⟩
  obtain ⟨hz, hm1⟩ := mapO_eq hm
  have hfree : (ρ1.set i none)[i]? = some none := List.getElem?_set_self hl
  refine hx E T t σ H l st _ fun J E' H' lt st' gv => ?_
  intro D hD
  exact lc_core1 (te := wEc X scope elt) (tt := tYes) (ρ1 := ρ1) (N := fun _ : Unit => ρ1.set i none) (el := el) (i := i) (E := E) l (compG_map hm1) hz hD st' gv (Wk.refl _) (fun _ => hok) (fun _ => hfree)
    (fun x s k hk T t σ H l st Q q => by cases hk; exact q H st)
    (fun x s y s' hf => by
      cases hfx : f x with
      | none => rw [hfx] at hf; cases hf
      | some y0 =>
        rw [hfx] at hf
        cases hf
        refine ⟨(ρ1.set i none).set i (some (cv x)), by rw [set_set, set_set]; exact Wk.refl _, fun T t σ H l st Q q s0 H0 C cl fp => ?_⟩
        rw [set_set] at st q
        exact he s0 H0 C cl fp x y hfx E' T t σ H l st Q q)
    fun H2 st2 => k _ _ (lc_fin l lt hfree st2)
/-- [elt for x in iter if c] -/
theorem xc_fltO (i : Nat) {Ok : Cl → Prop} {xs : List α} {cv : α → OA} {tb : α → Option Bool} {f : α → Option δ} {el : δ → OA} {ys : List δ} (hm : fltO tb f xs = some ys) (hx : XI X (.Name x p) iter ρ ρ1 Ok xs cv) (hok : Ok (ρ1.set i none)) (hl : i < ρ1.length)
    (ht : ∀ s0 H0 C cl fp x, XTm (blkX X scope s0 H0 C cl fp) c (ρ1.set i (some (cv x))) (tb x))
    (he : ∀ s0 H0 C cl fp x, XEm (blkX X scope s0 H0 C cl fp) elt (ρ1.set i (some (cv x))) (f x) (fun _ => ρ1.set i (some (cv x))) el) :
    XC X x p i elt iter [c] scope ρ (ρ1.set i none) (aL (ys.map el)) := by
  refine ⟨wTc X scope c, wEc X scope elt, fun s0 H0 C cl fp => pts_one ⟨fun pins s σ H Q I h => h s0 H0 C cl fp pins s I⟩, fun s0 H0 C cl fp => ⟨fun pins s σ H Q I h => h s0 H0 C cl fp pins s I⟩, fun E T t σ H l st Q k => ?_⟩
  obtain ⟨hz, hm1⟩ := fltO_eq hm
  have hfree : (ρ1.set i none)[i]? = some none := List.getElem?_set_self hl
  refine hx E T t σ H l st _ fun J E' H' lt st' gv => ?_
  intro D hD
  exact lc_core1 (te := wEc X scope elt) (tt := wTc X scope c) (ρ1 := ρ1) (N := fun _ : Unit => ρ1.set i none) (el := el) (i := i) (E := E) l (compG_flt hm1) hz hD st' gv (Wk.refl _) (fun _ => hok) (fun _ => hfree)
    (fun x s k hk T t σ H l st Q q s0 H0 C cl fp => by
      rw [set_set] at st q
      exact ht s0 H0 C cl fp x k hk E' T t σ H l st Q q)
    (fun x s y s' hf => by
      cases hfx : f x with
      | none => rw [hfx] at hf; cases hf
      | some y0 =>
        rw [hfx] at hf
        cases hf
        refine ⟨(ρ1.set i none).set i (some (cv x)), by rw [set_set, set_set]; exact Wk.refl _, fun T t σ H l st Q q s0 H0 C cl fp => ?_⟩
        rw [set_set] at st q
        exact he s0 H0 C cl fp x y hfx E' T t σ H l st Q q)
    fun H2 st2 => k _ _ (lc_fin l lt hfree st2)
/-- [elt for x in iter], owned things are changed by it: N -/
theorem xc_mapS (i : Nat) {Ok : Cl → Prop} {xs : List α} {cv : α → OA} {f : β → α → Option (δ × β)} {N : β → Cl} {N2 : α → δ × β → Cl} {s0 : β} {el : δ → OA} {r : List δ × β} (hm : mapS f xs s0 = some r) (hx : XI X (.Name x p) iter ρ ρ1 Ok xs cv)
    (hw : Wk (ρ1.set i none) (N s0)) (hok : ∀ s, Ok (N s)) (hf0 : ∀ s, (N s)[i]? = some none)
    (he : ∀ s0 H0 C cl fp x s, XEm (blkX X scope s0 H0 C cl fp) elt ((N s).set i (some (cv x))) (f s x) (N2 x) (fun o => el o.1)) (hw2 : ∀ x o, Wk ((N2 x o).set i none) (N o.2)) :
    XC X x p i elt iter [] scope ρ (N r.2) (aL (r.1.map el)) := by
  refine ⟨tYes, wEc X scope elt, fun _ _ _ _ _ => pts_nil, fun s0 H0 C cl fp => ⟨fun pins s σ H Q I h => h s0 H0 C cl fp pins s I⟩, fun E T t σ H l st Q k => ?_⟩
  obtain ⟨hz, hm1⟩ := mapS_eq hm
  refine hx E T t σ H l st _ fun J E' H' lt st' gv => ?_
  intro D hD
  exact lc_core1 (te := wEc X scope elt) (tt := tYes) (ρ1 := ρ1) (N := N) (el := el) (i := i) (E := E) l (compG_mapT hm1) hz hD st' gv hw hok hf0
    (fun x s k hk T t σ H l st Q q => by cases hk; exact q H st)
    (fun x s y s' hf => ⟨N2 x (y, s'), hw2 x (y, s'), fun T t σ H l st Q q s0 H0 C cl fp => he s0 H0 C cl fp x s (y, s') hf E' T t σ H l st Q q⟩)
    fun H2 st2 => k _ _ (lc_fin l lt (hf0 _) st2)
end
end Mr

set_option Elab.async false
set_option linter.all false
set_option maxRecDepth 100000
namespace Mr
open PySem PySem.Spec PyProof.Rows L2

/-! ### typed data -/
class Cd (α : Type) where
  d : α → PyData
  dep : Nat
  can : ∀ x, (d x).canLay0 = true
  hdep : ∀ x, (d x).depth ≤ dep
class Ce (α : Type) [Cd α] [DecidableEq α] where
  eqv : ∀ x y : α, PyData.eqv (Cd.d x) (Cd.d y) = decide (x = y)
/-- never None -/
class Cn (α : Type) [Cd α] where
  nn : ∀ x : α, isN (Cd.d x) = false
theorem Cd.shp {α : Type} [Cd α] (x : α) (h : Cd.dep α ≤ 64 := by decide) : SeqAt.shaped (Cd.d x) = true := by
  unfold SeqAt.shaped
  rw [Cd.can x, decide_eq_true (Nat.le_trans (Cd.hdep x) h)]
  rfl
structure T3 (α β γ : Type) where
  a : α
  b : β
  c : γ
  deriving DecidableEq
structure T4 (α β γ δ : Type) where
  a : α
  b : β
  c : γ
  d : δ
  deriving DecidableEq
/-- a text that may be compared -/
abbrev Wd := { x : Str // PyData.strOk x = true }
instance : Cd Int := ⟨.int, 0, fun _ => by simp [PyData.canLay0], fun _ => by simp [PyData.depth]⟩
instance : Cd Bool := ⟨.bool, 0, fun _ => by simp [PyData.canLay0], fun _ => by simp [PyData.depth]⟩
instance : Cd Wd := ⟨fun x => .str x.1, 0, fun x => by simp [PyData.canLay0, x.2], fun _ => by simp [PyData.depth]⟩
instance : Cd Unit := ⟨fun _ => .none, 0, fun _ => by simp [PyData.canLay0], fun _ => by simp [PyData.depth]⟩
theorem can_all {α : Type} [Cd α] : ∀ xs : List α, PyData.canLayAll0 (xs.map Cd.d) = true
  | [] => by simp [PyData.canLayAll0]
  | x :: xs => by simp [PyData.canLayAll0, Cd.can x, can_all xs]
theorem dep_all {α : Type} [Cd α] : ∀ xs : List α, PyData.depthAll (xs.map Cd.d) ≤ Cd.dep α
  | [] => by simp [PyData.depthAll]
  | x :: xs => by
    have h1 := Cd.hdep x
    have h2 := dep_all xs
    simp only [List.map_cons, PyData.depthAll]
    omega
instance {α : Type} [Cd α] : Cd (List α) := ⟨fun xs => .list (xs.map Cd.d), Cd.dep α + 1, fun xs => by simp [PyData.canLay0, can_all], fun xs => by
  have := dep_all xs
  simp only [PyData.depth]
  omega⟩
instance {α : Type} [Cd α] : Cd (Option α) := ⟨fun o => match o with | none => .none | some x => Cd.d x, Cd.dep α, fun o => by cases o; simp [PyData.canLay0]; exact Cd.can _, fun o => by cases o; simp [PyData.depth]; exact Cd.hdep _⟩
instance {α β : Type} [Cd α] [Cd β] : Cd (α × β) := ⟨fun p => .tuple [Cd.d p.1, Cd.d p.2], max (Cd.dep α) (Cd.dep β) + 1, fun p => by simp [PyData.canLay0, PyData.canLayAll0, Cd.can], fun p => by
  have h1 := Cd.hdep p.1
  have h2 := Cd.hdep p.2
  simp only [PyData.depth, PyData.depthAll]
  omega⟩
instance {α β γ : Type} [Cd α] [Cd β] [Cd γ] : Cd (T3 α β γ) := ⟨fun p => .tuple [Cd.d p.a, Cd.d p.b, Cd.d p.c], max (Cd.dep α) (max (Cd.dep β) (Cd.dep γ)) + 1, fun p => by simp [PyData.canLay0, PyData.canLayAll0, Cd.can], fun p => by
  have h1 := Cd.hdep p.a
  have h2 := Cd.hdep p.b
  have h3 := Cd.hdep p.c
  simp only [PyData.depth, PyData.depthAll]
  omega⟩
instance {α β γ δ : Type} [Cd α] [Cd β] [Cd γ] [Cd δ] : Cd (T4 α β γ δ) := ⟨fun p => .tuple [Cd.d p.a, Cd.d p.b, Cd.d p.c, Cd.d p.d], max (Cd.dep α) (max (Cd.dep β) (max (Cd.dep γ) (Cd.dep δ))) + 1, fun p => by simp [PyData.canLay0, PyData.canLayAll0, Cd.can], fun p => by
  have h1 := Cd.hdep p.a
  have h2 := Cd.hdep p.b
  have h3 := Cd.hdep p.c
  have h4 := Cd.hdep p.d
  simp only [PyData.depth, PyData.depthAll]
  omega⟩
instance : Cn Int := ⟨fun _ => rfl⟩
instance : Cn Bool := ⟨fun _ => rfl⟩
instance : Cn Wd := ⟨fun _ => rfl⟩
instance {α : Type} [Cd α] : Cn (List α) := ⟨fun _ => rfl⟩
instance {α β : Type} [Cd α] [Cd β] : Cn (α × β) := ⟨fun _ => rfl⟩
instance {α β γ : Type} [Cd α] [Cd β] [Cd γ] : Cn (T3 α β γ) := ⟨fun _ => rfl⟩
instance {α β γ δ : Type} [Cd α] [Cd β] [Cd γ] [Cd δ] : Cn (T4 α β γ δ) := ⟨fun _ => rfl⟩
instance : Ce Int := ⟨fun x y => by show (x == y) = _; rw [Bool.beq_eq_decide_eq]⟩
instance : Ce Bool := ⟨fun x y => by show (x == y) = _; rw [Bool.beq_eq_decide_eq]⟩
theorem beq_dec {α : Type} [DecidableEq α] (x y : α) (h : ∀ x y : α, (x == y) = decide (x = y)) : (x == y) = decide (x = y) := h x y
instance : Ce Unit := ⟨fun x y => by cases x; cases y; rfl⟩
theorem eqv_all {α : Type} [Cd α] [DecidableEq α] [Ce α] : ∀ xs ys : List α, PyData.eqvAll (xs.map Cd.d) (ys.map Cd.d) = decide (xs = ys)
  | [], [] => by simp [PyData.eqvAll]
  | [], _ :: _ => by simp [PyData.eqvAll]
  | _ :: _, [] => by simp [PyData.eqvAll]
  | x :: xs, y :: ys => by
    simp only [List.map_cons, PyData.eqvAll, Ce.eqv, eqv_all xs ys, List.cons.injEq, Bool.decide_and]
instance {α : Type} [Cd α] [DecidableEq α] [Ce α] : Ce (List α) := ⟨fun xs ys => by
  show PyData.eqv (.list _) (.list _) = _
  rw [PyData.eqv]
  exact eqv_all xs ys⟩
theorem eqv_non_l {d : PyData} (h : isN d = false) : PyData.eqv .none d = false := by
  cases d <;> first | rfl | (cases h) | simp [PyData.eqv]
theorem eqv_non_r {d : PyData} (h : isN d = false) : PyData.eqv d .none = false := by
  cases d <;> first | rfl | (cases h) | simp [PyData.eqv]
instance {α : Type} [Cd α] [DecidableEq α] [Ce α] [Cn α] : Ce (Option α) := ⟨fun x y => by
  cases x with
  | none =>
    cases y with
    | none => simp [Cd.d, PyData.eqv]
    | some y => 
      show PyData.eqv .none (Cd.d y) = _
      rw [eqv_non_l (Cn.nn y)]
      simp
  | some x =>
    cases y with
    | none =>
      show PyData.eqv (Cd.d x) .none = _
      rw [eqv_non_r (Cn.nn x)]
      simp
    | some y =>
      show PyData.eqv (Cd.d x) (Cd.d y) = _
      rw [Ce.eqv]
      simp⟩
instance {α β : Type} [Cd α] [Cd β] [DecidableEq α] [DecidableEq β] [Ce α] [Ce β] : Ce (α × β) := ⟨fun x y => by
  show PyData.eqv (.tuple _) (.tuple _) = _
  obtain ⟨x1, x2⟩ := x
  obtain ⟨y1, y2⟩ := y
  simp [PyData.eqv, PyData.eqvAll, Ce.eqv, Prod.mk.injEq]⟩
instance {α β γ : Type} [Cd α] [Cd β] [Cd γ] [DecidableEq α] [DecidableEq β] [DecidableEq γ] [Ce α] [Ce β] [Ce γ] : Ce (T3 α β γ) := ⟨fun x y => by
  show PyData.eqv (.tuple _) (.tuple _) = _
  obtain ⟨x1, x2, x3⟩ := x
  obtain ⟨y1, y2, y3⟩ := y
  simp [PyData.eqv, PyData.eqvAll, Ce.eqv, T3.mk.injEq]⟩
instance {α β γ δ : Type} [Cd α] [Cd β] [Cd γ] [Cd δ] [DecidableEq α] [DecidableEq β] [DecidableEq γ] [DecidableEq δ] [Ce α] [Ce β] [Ce γ] [Ce δ] : Ce (T4 α β γ δ) := ⟨fun x y => by
  show PyData.eqv (.tuple _) (.tuple _) = _
  obtain ⟨x1, x2, x3, x4⟩ := x
  obtain ⟨y1, y2, y3, y4⟩ := y
  simp [PyData.eqv, PyData.eqvAll, Ce.eqv, T4.mk.injEq]⟩
instance : Ce Wd := ⟨fun x y => by
  show PyData.eqv (.str x.1) (.str y.1) = _
  simp only [PyData.eqv]
  rw [Bool.eq_iff_iff]
  simp [Subtype.ext_iff]⟩
section
variable {X : Cx} {ρ ρ1 ρ2 ρ3 : Cl} {a b c e : Expr} {pos : Pos} {A B : OA} {α : Type} [Cd α]
theorem atI_map {α β : Type} {f : α → β} {xs : List α} {i : Int} {x : α} (h : atI xs i = some x) : atI (xs.map f) i = some (f x) := by
  unfold atI at h ⊢
  rw [List.length_map]
  cases hk : ixN xs.length i with
  | none => rw [hk] at h; cases h
  | some j =>
    rw [hk] at h
    show (xs.map f)[j]? = _
    have h : xs[j]? = some x := h
    rw [List.getElem?_map, h]
    rfl
theorem xc_ix {xs : List α} {i : Int} {x : α} (ha : XE X a ρ ρ1 A) (hb : XE X b ρ1 ρ2 (aD X.K (.int i))) (r : Rls X.K ρ2 A (xs.map Cd.d)) (h : atI xs i = some x) (hs : PlainIx b := by exact fun _ _ => rfl) : XE X (.Subscript a b pos) ρ ρ2 (aD X.K (Cd.d x)) := xe_ix ha hb r (atI_map h) hs
theorem xc_slice {lo hi : Option Expr} {i j : Option Int} {xs : List α} {p2 : Pos} (ha : XE X a ρ ρ1 A) (hl : XO X lo ρ1 ρ2 i) (hh : XO X hi ρ2 ρ3 j) (r : Rls X.K ρ3 A (xs.map Cd.d)) : XE X (.Subscript a (.Slice lo hi none p2) pos) ρ ρ3 (aLD X.K ((cutL xs i j).map Cd.d)) := by
  have q := xe_slice (p2 := p2) (pos := pos) ha hl hh r
  rwa [cutL_map] at q
theorem xc_cat {xs ys : List α} (ha : XE X a ρ ρ1 A) (hb : XE X b ρ1 ρ2 B) (ra : Rlm X.K ρ2 A (xs.map Cd.d)) (rb : Rlm X.K ρ2 B (ys.map Cd.d)) (hz : xs.length + ys.length ≤ sizeLine) : XE X (.BinOp a .Add b pos) ρ ρ2 (aLD X.K ((xs ++ ys).map Cd.d)) := by
  have q := xe_cat (pos := pos) ha hb ra rb (by simpa using hz)
  rwa [← List.map_append] at q
theorem xkc_eq [DecidableEq α] [Ce α] {x y : α} (hu : X.A.units + 64 < cLine) (ha : XE X a ρ ρ1 A) (hb : XE X b ρ1 ρ2 B) (ra : Rda X.K ρ2 A (Cd.d x)) (rb : Rda X.K ρ2 B (Cd.d y)) (hd : Cd.dep α ≤ 64 := by decide) : XKm X (.Compare a [.Eq] [b] pos) ρ ρ2 (decide (x = y)) := xk_eq hu ha hb ra rb (Cd.shp x hd) (Cd.shp y hd) (Ce.eqv x y)
theorem xkc_ne [DecidableEq α] [Ce α] {x y : α} (hu : X.A.units + 64 < cLine) (ha : XE X a ρ ρ1 A) (hb : XE X b ρ1 ρ2 B) (ra : Rda X.K ρ2 A (Cd.d x)) (rb : Rda X.K ρ2 B (Cd.d y)) (hd : Cd.dep α ≤ 64 := by decide) : XKm X (.Compare a [.NotEq] [b] pos) ρ ρ2 (!decide (x = y)) := xk_ne hu ha hb ra rb (Cd.shp x hd) (Cd.shp y hd) (Ce.eqv x y)
theorem aLD_map {K : PySem.W.Frag} {δ : Type} (cv : δ → PyData) (ys : List δ) : aL (ys.map fun y => aD K (cv y)) = aLD K (ys.map cv) := by
  unfold aLD
  rw [List.map_map]
  rfl
theorem isN_opt [Cn α] (o : Option α) : isN (Cd.d o) = o.isNone := by
  cases o with
  | none => rfl
  | some x => exact Cn.nn x
/-- an owned list is not changed from here on -/
theorem xg_freeze {ω : Type} {sts : List Stmt} {m : Option ω} {Φ : ω → Ent → Ends → Prop} {v : V} {ds : List PyData} (i : Nat) (h : ρ[i]? = some (some (pin v (aLD X.K ds)))) (k : XG X sts (ρ.set i (some (aD X.K (.list ds)))) m Φ) : XG X sts ρ m Φ := fun o ho E σ H D st q => by
  obtain ⟨G, F, f, c⟩ := st
  obtain ⟨w, F1, F2, e1, e2, ⟨e3, p, vs, F', e4, e5, h1, c1⟩, c2⟩ := Cs.slot (T := []) (t := []) rfl (by simpa using c) h
  obtain ⟨q1, q2⟩ := csD c1
  subst e3 e4 e5 q2
  have f0 := f.perm e2
  have g : G p = none := f0.dis p (by simp)
  obtain ⟨f1, st⟩ := f.step e2 (Frm.freeze f.gh g h1)
  obtain ⟨F3, e6, c3⟩ := Cs.back (T := []) (t := []) (A := aD X.K (.list ds)) (F1 := []) rfl (c2.mono (.new g) f1.gh st) (lt_of_get h) e1 ⟨.lst upd_same (DqAll.mono (.new g) _ _ q1), rfl⟩
  exact k o ho E σ H D ⟨_, F3, f1.perm e6.symm, by simpa using c3⟩ q
end
theorem wk_0 : Wk [] [] := trivial
theorem wk_n {a : Option OA} {l l' : Cl} (h : Wk l l') : Wk (a :: l) (none :: l') := by
  cases a <;> exact h
theorem wk_k {a : OA} {l l' : Cl} (h : Wk l l') : Wk (some a :: l) (some a :: l') := ⟨rfl, h⟩

/-! ### mirrors' guards -/
def mulM (i j : Int) : Option Int := if MulOk i j then some (i * j) else none
def divM (i j : Int) : Option Int := if DivOk j then some (i / j) else none
def modM (i j : Int) : Option Int := if 0 < j then some (i % j) else none
def guardO (p : Prop) [Decidable p] : Option Unit := if p then some () else none
theorem mulM_eq {i j k : Int} (h : mulM i j = some k) : MulOk i j ∧ i * j = k := by
  unfold mulM at h
  split at h
  · cases h; exact ⟨by assumption, rfl⟩
  · cases h
theorem divM_eq {i j k : Int} (h : divM i j = some k) : DivOk j ∧ i / j = k := by
  unfold divM at h
  split at h
  · cases h; exact ⟨by assumption, rfl⟩
  · cases h
theorem modM_eq {i j k : Int} (h : modM i j = some k) : 0 < j ∧ i % j = k := by
  unfold modM at h
  split at h
  · cases h; exact ⟨by assumption, rfl⟩
  · cases h
theorem guardO_eq {p : Prop} [Decidable p] {u : Unit} (h : guardO p = some u) : p := by
  unfold guardO at h
  split at h
  · assumption
  · cases h
theorem xe_isI {X : Cx} {a : Expr} {ρ ρ1 : Cl} {i j : Int} (h : XE X a ρ ρ1 (aD X.K (.int i))) (e : i = j) : XE X a ρ ρ1 (aD X.K (.int j)) := e ▸ h
end Mr

set_option Elab.async false
set_option linter.all false
set_option maxRecDepth 100000
namespace Mr
open PySem PySem.Spec PyProof.Rows L2

theorem sz_of {n : Nat} (h : n ≤ 1000000) : n ≤ sizeLine := Nat.le_trans h (by decide)
theorem sz_lt {n : Nat} (h : n < 1000000) : n < sizeLine := Nat.lt_of_lt_of_le h (by decide)
/-- a written tuple of ints of the module -/
def GTup (K : PySem.W.Frag) (mg : Str → Option Value) (x : Str) (ns : List Int) : Prop := ∃ a, mg x = some (.ref a) ∧ ∀ G : Hp, SqT K G a (ns.map V.int)
theorem GTup.mk' {K : PySem.W.Frag} {mg : Str → Option Value} {x : Str} {ns : List Int} {a : Addr} {od : Option Addr} {vs : Array Value} {n : Nat} {sl : Array (Option Value)} (h : mg x = some (.ref a)) (l : K.lookup a = some ⟨.type "tuple", od, .seq vs n, sl⟩) (hz : vs.size ≤ sizeLine) (r : Vals (ns.map V.int) vs.toList) : GTup K mg x ns :=
  ⟨a, h, fun G => .inr ⟨_, vs, n, l, rfl, rfl, hz, r⟩⟩
theorem dq_ints {K : PySem.W.Frag} {G : Hp} : ∀ ns : List Int, DqAll K G (ns.map V.int) (ns.map Cd.d)
  | [] => .nil
  | n :: ns => .cons (.int n) (dq_ints ns)
section
variable {X : Cx} {ρ ρ1 ρ2 ρ3 : Cl} {a b c e o : Expr} {pos p : Pos} {A B : OA} {α : Type} [Cd α]
theorem xe_gTup {x : Str} {ns : List Int} (h : GTup X.K X.mg x ns) (hg : Gl X x := by rfl) (hd : (x == ("__debug__" : Str)) = false := by decide) : XE X (.Name x pos) ρ ρ (aD X.K (.tuple (ns.map Cd.d))) := by
  obtain ⟨a, h1, h2⟩ := h
  exact xe_c (v := .ref a) (pe_glob hg h1 rfl hd) fun G => .tup (h2 G) (dq_ints ns)
theorem xc_ixT {xs : List α} {i : Int} {x : α} (ha : XE X a ρ ρ1 A) (hb : XE X b ρ1 ρ2 (aD X.K (.int i))) (r : Rtu X.K ρ2 A (xs.map Cd.d)) (h : atI xs i = some x) (hs : PlainIx b := by exact fun _ _ => rfl) : XE X (.Subscript a b pos) ρ ρ2 (aD X.K (Cd.d x)) := xe_ixT ha hb r (atI_map h) hs
theorem xe_lstD {xs : List α} {es : List Expr} (h : XA X es ρ ρ1 ((xs.map Cd.d).map (aD X.K))) (hz : xs.length ≤ 1000) : XE X (.List es pos) ρ ρ1 (aLD X.K (xs.map Cd.d)) := xe_lst h (by simpa using hz)
theorem xe_nv {v x : α} (h : XE X a ρ ρ1 (aD X.K (Cd.d v))) (e : v = x) : XE X a ρ ρ1 (aD X.K (Cd.d x)) := e ▸ h
theorem xe_unopt {o : Option α} {x : α} (h : XE X a ρ ρ1 (aD X.K (Cd.d o))) (e : o = some x) : XE X a ρ ρ1 (aD X.K (Cd.d x)) := by
  subst e
  exact h
theorem xc_truth {xs : List α} (h : XE X a ρ ρ1 A) {n : Nat} (r : Rsq X.K ρ1 A n) (hl : Rls X.K ρ1 A (xs.map Cd.d)) (he : ∀ whole, isTrue a X.env whole = (do let v ← whole; standAt a.pos; holding [v] (truthy v)) := by intro _; rfl) : XT X a ρ ρ1 (!xs.isEmpty) := by
  have q := xt_list h r hl he
  have e : (xs.map (Cd.d (α := α))).isEmpty = xs.isEmpty := by cases xs <;> rfl
  rwa [e] at q
theorem xc_len {xs : List α} (ha : XE X a ρ ρ1 A) (r : Rls X.K ρ1 A (xs.map Cd.d)) (hm : X.mg "len" = none) (hg : Gl X "len" := by rfl) (hs : starEach [a] X.env = [(false, eval a X.env)] := by rfl) (hpl : (backTo pos (starEach [] X.env)).any (·.1) = false := by rfl) : XE X (.Call (.Name "len" p) [a] [] pos) ρ ρ1 (aD X.K (.int ((xs.length : Nat) : Int))) := by
  have q := xe_len (p := p) (pos := pos) ha (Rls.sq r) hm hg hs hpl
  rwa [List.length_map] at q
theorem isi_opt {U : String} {k : Bool} (o : Option α) (h0 : kitB "NoneType" U = some false) {T : String} (hT : ∀ x : α, tyN (Cd.d x) = T) (h1 : kitB T U = some k) : kitB (tyN (Cd.d o)) U = some (Option.elim o false fun _ => k) := by
  cases o with
  | none => exact h0
  | some x =>
    show kitB (tyN (Cd.d x)) U = some k
    rw [hT x]
    exact h1
theorem xp_setD {α : Type} {cv : α → PyData} {xs : List α} {x : α} {v0 : V} (i : Nat) {j : Nat} {n : Int} (ho : XE X o ρ ρ (aV v0)) (hb : XE X b ρ ρ1 (aD X.K (.int n))) (h1 : ρ1[i]? = some (some (pin v0 (aLD X.K (xs.map cv))))) (hn : ixN xs.length n = some j)
    (ha : ∀ v, assign (.Subscript o b pos) X.env v = (do
      let ov ← holding [v] (eval o X.env)
      let iv ← holding [v, ov] (eval b X.env)
      standAt pos
      holding [v, ov, iv] (setItem ov iv v)
      release [v, ov, iv] []) := by intro _; rfl) : XP X (.Subscript o b pos) (aD X.K (cv x)) ρ (ρ1.set i (some (pin v0 (aLD X.K ((xs.set j x).map cv))))) := by
  have q := xp_setL (B := aD X.K (cv x)) i ho hb h1 (by simpa using hn) ha
  have e : ((xs.map cv).map (aD X.K)).set j (aD X.K (cv x)) = ((xs.set j x).map cv).map (aD X.K) := by simp [List.map_set]
  rwa [e] at q
/-! ### lists times an int -/
def RepOk (n : Nat) (k : Int) : Prop := -(2 ^ 63) ≤ k ∧ k < 2 ^ 63 ∧ n * k.toNat ≤ 1000000
instance (n : Nat) (k : Int) : Decidable (RepOk n k) := by unfold RepOk; exact inferInstance
def repL {α : Type} (xs : List α) (k : Int) : List α := (List.replicate k.toNat xs).flatten
theorem repL_map {α β : Type} (f : α → β) (xs : List α) (k : Int) : (repL xs k).map f = repL (xs.map f) k := by
  unfold repL
  rw [List.map_flatten, List.map_replicate]
theorem xc_rep {xs : List α} {k : Int} (hk : RepOk xs.length k) (ha : XE X a ρ ρ1 A) (hb : XE X b ρ1 ρ2 (aD X.K (.int k))) (r : Rlm X.K ρ2 A (xs.map Cd.d)) : XE X (.BinOp a .Mult b pos) ρ ρ2 (aLD X.K ((repL xs k).map Cd.d)) := fun E T t σ H l st Q kk =>
  wE.of (pe_op op_rep peS peS) (ha E T t σ H l st _ fun x H1 st1 => hb E (_ :: T) (_ :: t) σ H1 (by simp [l]) st1 _ fun y H2 st2 => by
    obtain ⟨G, F, Fv, Fw, f, cs, q1, q2, _⟩ := ST.two st2
    cases q2
    obtain ⟨p, vs, e1, e2, e3⟩ := r l cs f.gh q1
    refine ⟨p, k, vs, e1, rfl, e2, hk.1, hk.2.1, ?_, fun p' hp => kk _ _ ?_⟩
    · rw [e3.len, List.length_map]; exact sz_of hk.2.2
    · have q := ST.newL f cs hp (dq_rep e3 k.toNat)
      rw [repL_map]
      exact q)
/-! ### tests by their mirrors -/
def andO (m n : Option Bool) : Option Bool := m.bind fun k => if k = true then n else some false
def orO (m n : Option Bool) : Option Bool := m.bind fun k => if k = true then some true else n
def XWm (X : Cx) (e : Expr) (ρ : Cl) (m : Option Bool) : Prop := ∀ k, m = some k → XW X e ρ ρ k
theorem xwm_and1 {m : Option Bool} (h : XTm X a ρ m) : XWm X (.BoolOp .And [a] pos) ρ m := fun k hk => xw_and1 (h k hk)
theorem xwm_or1 {m : Option Bool} (h : XTm X a ρ m) : XWm X (.BoolOp .Or [a] pos) ρ m := fun k hk => xw_or1 (h k hk)
theorem xwm_and {m n : Option Bool} {rest : List Expr} (h : XTm X a ρ m) (h2 : XWm X (.BoolOp .And (b :: rest) pos) ρ n) : XWm X (.BoolOp .And (a :: b :: rest) pos) ρ (andO m n) := fun k hk => by
  unfold andO at hk
  cases hm : m with
  | none => rw [hm] at hk; cases hk
  | some k1 =>
    rw [hm] at hk
    cases k1 with
    | true => exact xw_and (k2 := k) (h true hm) fun _ => h2 k hk
    | false => cases hk; exact xw_and (k2 := false) (h false hm) fun z => nomatch z
theorem xwm_or {m n : Option Bool} {rest : List Expr} (h : XTm X a ρ m) (h2 : XWm X (.BoolOp .Or (b :: rest) pos) ρ n) : XWm X (.BoolOp .Or (a :: b :: rest) pos) ρ (orO m n) := fun k hk => by
  unfold orO at hk
  cases hm : m with
  | none => rw [hm] at hk; cases hk
  | some k1 =>
    rw [hm] at hk
    cases k1 with
    | false => exact xw_or (k2 := k) (h false hm) fun _ => h2 k hk
    | true => cases hk; exact xw_or (k2 := true) (h true hm) fun z => nomatch z
/-- the first operand may change what is known -/
theorem xw_and' {k k2 : Bool} {rest : List Expr} (h : XT X a ρ ρ1 k) (h2 : k = true → XW X (.BoolOp .And (b :: rest) pos) ρ1 ρ1 k2) : XW X (.BoolOp .And (a :: b :: rest) pos) ρ ρ1 (k && k2) := fun E T t σ H l st Q kk => wW.of (pw_and ptS pwS) (h E T t σ H l st _ fun H1 st1 => by
  cases k with
  | true => exact h2 rfl E T t σ H1 l st1 Q kk
  | false => exact kk H1 st1)
theorem xw_or' {k k2 : Bool} {rest : List Expr} (h : XT X a ρ ρ1 k) (h2 : k = false → XW X (.BoolOp .Or (b :: rest) pos) ρ1 ρ1 k2) : XW X (.BoolOp .Or (a :: b :: rest) pos) ρ ρ1 (k || k2) := fun E T t σ H l st Q kk => wW.of (pw_or ptS pwS) (h E T t σ H l st _ fun H1 st1 => by
  cases k with
  | false => exact h2 rfl E T t σ H1 l st1 Q kk
  | true => exact kk H1 st1)
theorem xw_andM {k k2 : Bool} {n : Option Bool} {rest : List Expr} (h : XT X a ρ ρ1 k) (h2 : XWm X (.BoolOp .And (b :: rest) pos) ρ1 n) (hk : (if k = true then n else some false) = some k2) : XW X (.BoolOp .And (a :: b :: rest) pos) ρ ρ1 k2 := by
  cases k with
  | true => exact xw_and' h fun _ => h2 k2 hk
  | false => cases hk; exact xw_and' (k2 := false) h fun z => nomatch z
theorem xw_orM {k k2 : Bool} {n : Option Bool} {rest : List Expr} (h : XT X a ρ ρ1 k) (h2 : XWm X (.BoolOp .Or (b :: rest) pos) ρ1 n) (hk : (if k = true then some true else n) = some k2) : XW X (.BoolOp .Or (a :: b :: rest) pos) ρ ρ1 k2 := by
  cases k with
  | false => exact xw_or' h fun _ => h2 k2 hk
  | true => cases hk; exact xw_or' (k2 := true) h fun z => nomatch z
/-- bools as values by their mirrors -/
def XBm (X : Cx) (e : Expr) (ρ : Cl) (m : Option Bool) : Prop := ∀ k, m = some k → XE X e ρ ρ (aD X.K (.bool k))
theorem xbm_bind {κ : Type} {m1 : Option κ} {k : κ → Option Bool} (h : ∀ x, m1 = some x → XBm X e ρ (k x)) : XBm X e ρ (m1.bind k) := fun o ho => by
  cases hm : m1 with
  | none => rw [hm] at ho; cases ho
  | some x => rw [hm] at ho; exact h x hm o ho
theorem xbm_some {k : Bool} (h : XE X e ρ ρ (aD X.K (.bool k))) : XBm X e ρ (some k) := fun _ ho => by cases ho; exact h
theorem xbm_one {op : BoolOp} {m : Option Bool} (h : XBm X a ρ m) : XBm X (.BoolOp op [a] pos) ρ m := fun k hk => xe_one (h k hk)
theorem xbm_and {m n : Option Bool} {rest : List Expr} (h : XBm X a ρ m) (h2 : XBm X (.BoolOp .And (b :: rest) pos) ρ n) : XBm X (.BoolOp .And (a :: b :: rest) pos) ρ (andO m n) := fun k hk => by
  unfold andO at hk
  cases hm : m with
  | none => rw [hm] at hk; cases hk
  | some k1 =>
    rw [hm] at hk
    cases k1 with
    | true => exact xe_and (k2 := k) (h true hm) fun _ => h2 k hk
    | false => cases hk; exact xe_and (k2 := false) (h false hm) fun z => nomatch z
theorem xbm_or {m n : Option Bool} {rest : List Expr} (h : XBm X a ρ m) (h2 : XBm X (.BoolOp .Or (b :: rest) pos) ρ n) : XBm X (.BoolOp .Or (a :: b :: rest) pos) ρ (orO m n) := fun k hk => by
  unfold orO at hk
  cases hm : m with
  | none => rw [hm] at hk; cases hk
  | some k1 =>
    rw [hm] at hk
    cases k1 with
    | false => exact xe_or (k2 := k) (h false hm) fun _ => h2 k hk
    | true => cases hk; exact xe_or (k2 := true) (h true hm) fun z => nomatch z
theorem xe_andM {k k2 : Bool} {n : Option Bool} {rest : List Expr} (h : XE X a ρ ρ1 (aD X.K (.bool k))) (h2 : XBm X (.BoolOp .And (b :: rest) pos) ρ1 n) (hk : (if k = true then n else some false) = some k2) : XE X (.BoolOp .And (a :: b :: rest) pos) ρ ρ1 (aD X.K (.bool k2)) := fun E T t σ H l st Q kk => wE.of (pe_and peS peS) (h E T t σ H l st _ fun x H1 st1 => by
  obtain ⟨G, F, f, cs, q⟩ := ST.top st1
  cases q
  refine ⟨k, rfl, ?_⟩
  cases k with
  | true => exact h2 k2 hk E T t σ H1 l ⟨G, F, f, cs⟩ Q kk
  | false => cases hk; exact kk _ H1 (ST.put f cs (.bl _)))
theorem xe_orM {k k2 : Bool} {n : Option Bool} {rest : List Expr} (h : XE X a ρ ρ1 (aD X.K (.bool k))) (h2 : XBm X (.BoolOp .Or (b :: rest) pos) ρ1 n) (hk : (if k = true then some true else n) = some k2) : XE X (.BoolOp .Or (a :: b :: rest) pos) ρ ρ1 (aD X.K (.bool k2)) := fun E T t σ H l st Q kk => wE.of (pe_or peS peS) (h E T t σ H l st _ fun x H1 st1 => by
  obtain ⟨G, F, f, cs, q⟩ := ST.top st1
  cases q
  refine ⟨k, rfl, ?_⟩
  cases k with
  | false => exact h2 k2 hk E T t σ H1 l ⟨G, F, f, cs⟩ Q kk
  | true => cases hk; exact kk _ H1 (ST.put f cs (.bl _)))
theorem xe_ite {k : Bool} {d : α → PyData} {x y : α} (h : XT X c ρ ρ1 k) (h1 : k = true → XE X a ρ1 ρ2 (aD X.K (d x))) (h2 : k = false → XE X b ρ1 ρ2 (aD X.K (d y))) : XE X (.IfExp c a b pos) ρ ρ2 (aD X.K (d (if k = true then x else y))) := by
  cases k with
  | true => exact xe_if h (fun _ => h1 rfl) fun z => nomatch z
  | false => exact xe_if h (fun z => nomatch z) fun _ => h2 rfl
end
/-- the law's own promise at the script -/
theorem law_sp {K : PySem.W.Frag} {H : Hp} {a : Addr} {ns : List Int} {n : Nat} {m : List Int → Option Bool} (hl : ns.length ≤ n) (hS : SqL K H a (ns.map V.int)) (ht : m ns = some true) {E : XK} :
    SpM (fun x : List Int => [aR K (List.map Cd.d x)]) m (fun _ _ => [none]) (fun _ (r : Bool) => aD K (Cd.d r)) [.ref a] H (fun v _ => v = .bl true) E := by
  refine ⟨ns, true, H, [], ht, ⟨.refl _, .refl _, by simp, fun b hb => by simp at hb, fun b hb => by simp at hb, fun _ _ q _ => q, fun b hb => by simp at hb, fun b o q n => by rw [show H b = none from n] at q; cases q⟩, ⟨.ref a, [], [], rfl, rfl, ⟨⟨a, _, rfl, hS, dq_ints ns⟩, rfl⟩, rfl⟩, rfl, fun v H' st => ?_⟩
  obtain ⟨G, F, f, c, q⟩ := ST.top (d := .bool true) st
  cases q
  rfl
end Mr

set_option Elab.async false
set_option linter.all false
set_option maxRecDepth 100000
namespace Mr
open PySem PySem.Spec PyProof.Rows L2

/-! ### more methods of owned lists of data -/
def popL {α : Type} (xs : List α) (n : Int) : Option (α × List α) := if -(2 ^ 63) ≤ n ∧ n < 2 ^ 63 then (seqIndex? n xs.length).bind fun k => (xs[k]?).bind fun x => some (x, xs.eraseIdx k) else none
def insL {α : Type} (xs : List α) (n : Int) (x : α) : Option (List α) := if xs.length < 1000000 ∧ 0 ≤ n ∧ n < 2 ^ 63 then some (xs.take n.toNat ++ [x] ++ xs.drop n.toNat) else none
theorem popL_eq {α : Type} {xs : List α} {n : Int} {r : α × List α} (h : popL xs n = some r) : -(2 ^ 63) ≤ n ∧ n < 2 ^ 63 ∧ ∃ k, seqIndex? n xs.length = some k ∧ xs[k]? = some r.1 ∧ r.2 = xs.eraseIdx k := by
  unfold popL at h
  split at h
  · rename_i hc
    cases hk : seqIndex? n xs.length with
    | none => rw [hk] at h; cases h
    | some k =>
      rw [hk] at h
      have h : ((xs[k]?).bind fun x => some (x, xs.eraseIdx k)) = some r := h
      cases hx : xs[k]? with
      | none => rw [hx] at h; cases h
      | some x =>
        rw [hx] at h
        cases h
        exact ⟨hc.1, hc.2, k, rfl, hx, rfl⟩
  · cases h
theorem insL_eq {α : Type} {xs : List α} {n : Int} {x : α} {r : List α} (h : insL xs n x = some r) : (xs.length < 1000000 ∧ 0 ≤ n ∧ n < 2 ^ 63) ∧ r = xs.take n.toNat ++ [x] ++ xs.drop n.toNat := by
  unfold insL at h
  split at h
  · cases h; exact ⟨by assumption, rfl⟩
  · cases h
theorem DqAll.map_eq {K : PySem.W.Frag} {G : Hp} {α : Type} {cv : α → PyData} {xs : List α} {vs : List V} (h : DqAll K G vs (xs.map cv)) : vs.length = xs.length := by
  rw [h.len, List.length_map]
theorem cs_ofD {K : PySem.W.Frag} {G H : Hp} {α : Type} {cv : α → PyData} {xs : List α} {vs : List V} (h : DqAll K G vs (xs.map cv)) : Cs G H (((xs.map cv).map (aD K)).map some) (vs.map some) [] := csD' h
/-- values that are known to be data -/
def aAll (K : PySem.W.Frag) (us : List V) (ds : List PyData) : OA := ⟨fun G _ _ F => DqAll K G us ds ∧ F = [], fun h e _ _ => ⟨DqAll.mono e _ _ h.1, h.2⟩⟩
theorem dq_erase {K : PySem.W.Frag} {G : Hp} : ∀ {ds : List PyData} {vs : List V} (k : Nat), DqAll K G vs ds → DqAll K G (vs.eraseIdx k) (ds.eraseIdx k)
  | [], _, k, h => by cases h; cases k <;> exact .nil
  | d :: ds, _, 0, h => by
    cases h with
    | cons h1 h2 => exact h2
  | d :: ds, _, k + 1, h => by
    cases h with
    | cons h1 h2 => exact .cons h1 (dq_erase k h2)
theorem map_erase {α β : Type} (f : α → β) : ∀ (xs : List α) (k : Nat), (xs.eraseIdx k).map f = (xs.map f).eraseIdx k
  | [], k => by cases k <;> rfl
  | x :: xs, 0 => rfl
  | x :: xs, k + 1 => congrArg (f x :: ·) (map_erase f xs k)
section
variable {X : Cx} {ρ ρ1 ρ2 ρ3 : Cl} {a b c e o : Expr} {pos p apos cpos : Pos} {A B : OA} {As0 : List OA} {v0 : V} {α : Type} {cv : α → PyData} {xs : List α}
/-- xs.pop(e) -/
theorem xe_popAt (i : Nat) {n : Int} {r : α × List α} (hr : popL xs n = some r) (ho : XE X o ρ ρ (aV v0)) (h0 : ρ[i]? = some (some (pin v0 (aL As0)))) (he : XE X e ρ ρ1 (aD X.K (.int n))) (h1 : ρ1[i]? = some (some (pin v0 (aLD X.K (xs.map cv)))))
    (hbase : attributeBase o "pop" X.env (eval o X.env) = eval o X.env := by rfl) (hfew : ((backTo cpos (starEach [e] X.env)).all (fun x => !x.1) && (backToKw cpos (keywordEach [] X.env)).all (fun x => x.1.isSome) && decide ([e].length + ([] : List Keyword).length + (if ([] : List Keyword).isEmpty then 0 else 1) < 30)) = true := by rfl)
    (hline : (apos.endLine == cpos.line) = true := by rfl) (hs : starEach [e] X.env = (false, eval e X.env) :: starEach [] X.env := by rfl) (hplain : (backTo cpos (starEach [] X.env)).any (·.1) = false := by rfl) :
    XE X (.Call (.Attribute o "pop" apos) [e] [] cpos) ρ (ρ1.set i (some (pin v0 (aLD X.K (r.2.map cv))))) (aD X.K (cv r.1)) := fun E T t σ H l st Q k =>
  wE.of (pe_bm PySem.F.plainAttrs_list PySem.F.slot_list_pop PySem.F.type_list_pop mt_popAt peS (pa_cons peS pa_nil hs) hbase hfew hline hs hplain) (ho E T t σ H l st _ fun x H1 st1 => by
    obtain ⟨e0, ty⟩ := ST.isL (X := X) l st1 h0
    subst e0
    refine ⟨ty, he E (_ :: T) (_ :: t) σ H1 (by simp [l]) st1 _ fun y H2 st2 => ?_⟩
    obtain ⟨G, F, f, c, q1⟩ := ST.top st2
    cases q1
    have st3 : ST E (T ++ ρ1) (t ++ σ) H2 := ST.pop (A := aV x) (x := some x) ⟨G, F, f, c⟩
    clear c f
    obtain ⟨G1, Fg, f, c⟩ := st3
    obtain ⟨w, F1, F2, e1, e2, ⟨e3, p, vs, F', e4, e5, h3, c1⟩, c2⟩ := c.slot l h1
    subst e3 e4
    obtain ⟨q1, q2⟩ := csD c1
    obtain ⟨b1, b2, k0, hk, hx, er⟩ := popL_eq hr
    obtain ⟨v, hv, qv⟩ := q1.get (i := k0) (d := cv r.1) (by rw [List.getElem?_map, hx]; rfl)
    have st4 : ST E (some (aD X.K .none) :: ((some (aD X.K (cv r.1)) :: T) ++ ρ1)) (some .non :: ((some v :: t) ++ σ)) H2 := ST.putN X.K (ST.put f c qv)
    obtain ⟨p', vs', e6, h4, hl, go⟩ := ST.modL (T := some (aD X.K (cv r.1)) :: T) (t := some v :: t) (by simp [l]) st4 h1
    cases e6
    rw [h3] at h4
    cases h4
    refine ⟨p, vs, n, k0, v, rfl, rfl, h3, b1, b2, by rw [q1.map_eq]; exact hk, hv, k _ _ ?_⟩
    refine go ((r.2.map cv).map (aD X.K)) (vs.eraseIdx k0) fun G H F1 F2 c q => ?_
    obtain ⟨q3, q4⟩ := csD c
    refine ⟨[], fun b hb => by simp at hb, fun _ => by simp, csD' ?_⟩
    rw [er, map_erase]
    exact dq_erase k0 q3)
/-- xs.insert(e, x) -/
theorem xe_insertD (i : Nat) {n : Int} {x : α} {r : List α} (hr : insL xs n x = some r) (ho : XE X o ρ ρ (aV v0)) (h0 : ρ[i]? = some (some (pin v0 (aL As0)))) (he : XE X e ρ ρ1 (aD X.K (.int n))) (hb : XE X b ρ1 ρ2 (aD X.K (cv x))) (h1 : ρ2[i]? = some (some (pin v0 (aLD X.K (xs.map cv)))))
    (hbase : attributeBase o "insert" X.env (eval o X.env) = eval o X.env := by rfl) (hfew : ((backTo cpos (starEach [e, b] X.env)).all (fun x => !x.1) && (backToKw cpos (keywordEach [] X.env)).all (fun x => x.1.isSome) && decide ([e, b].length + ([] : List Keyword).length + (if ([] : List Keyword).isEmpty then 0 else 1) < 30)) = true := by rfl)
    (hline : (apos.endLine == cpos.line) = true := by rfl) (hs : starEach [e, b] X.env = (false, eval e X.env) :: starEach [b] X.env := by rfl) (hs2 : starEach [b] X.env = [(false, eval b X.env)] := by rfl) (hplain : (backTo cpos (starEach [b] X.env)).any (·.1) = false := by rfl) :
    XE X (.Call (.Attribute o "insert" apos) [e, b] [] cpos) ρ (ρ2.set i (some (pin v0 (aLD X.K (r.map cv))))) (aD X.K .none) := fun E T t σ H l st Q k =>
  wE.of (pe_bm PySem.F.plainAttrs_list PySem.F.slot_list_insert PySem.F.type_list_insert mt_insert peS (pa_cons peS (pa_cons peS pa_nil hs2) (by rw [hs])) hbase hfew hline hs hplain) (ho E T t σ H l st _ fun y H1 st1 => by
    obtain ⟨e0, ty⟩ := ST.isL (X := X) l st1 h0
    subst e0
    refine ⟨ty, he E (_ :: T) (_ :: t) σ H1 (by simp [l]) st1 _ fun z H2 st2 => hb E (_ :: _ :: T) (_ :: _ :: t) σ H2 (by simp [l]) st2 _ fun u H3 st3 => ?_⟩
    have st4 : ST E (some (aD X.K (cv x)) :: some (aD X.K (.int n)) :: (T ++ ρ2)) (some u :: some z :: (t ++ σ)) H3 := by
      obtain ⟨G, F, f, w, F1, F2, e1, e2, q, w2, F3, F4, e3, e4, q2, w5, F5, F6, e5, e6, q5, c⟩ := st3
      subst e6 e4 e2
      exact ⟨G, F1 ++ (F3 ++ F6), f.less (List.Sublist.append_left (List.Sublist.append_left (List.sublist_append_right _ _) F3) F1), w, F1, _, e1, rfl, q, w2, F3, F6, e3, rfl, q2, c⟩
    have ez : z = .int n := by
      obtain ⟨G, F, f, c, q1, q2⟩ := ST.top2 st4
      cases q1
      rfl
    subst ez
    have st5 := ST.drop2 st4
    obtain ⟨p, vs, e1, h2, hl, go⟩ := ST.modL l st5 h1
    obtain ⟨⟨b1, b2, b3⟩, er⟩ := insL_eq hr
    refine ⟨p, vs, n, u, e1, rfl, h2, by rw [hl]; simp; exact sz_lt b1, b2, b3, k _ _ ?_⟩
    have st6 := go ((r.map cv).map (aD X.K)) (vs.take n.toNat ++ [u] ++ vs.drop n.toNat) fun G H F1 F2 c q => by
      obtain ⟨q3, q4⟩ := csD c
      obtain ⟨q5, q6⟩ := q
      refine ⟨[], fun b hb => by simp at hb, fun _ => by simp, csD' ?_⟩
      rw [er]
      simp only [List.map_append, List.map_take, List.map_drop, List.map_cons, List.map_nil]
      exact ((q3.take _).append (.cons q5 .nil)).append (q3.drop _)
    exact ST.putN X.K st6)
/-- xs.extend(ys) -/
theorem xe_extendD (i : Nat) {ys : List α} (hz : xs.length + ys.length ≤ 1000000) (ho : XE X o ρ ρ (aV v0)) (h0 : ρ[i]? = some (some (pin v0 (aL As0)))) (he : XE X e ρ ρ1 A) (r : Rlm X.K ρ1 A (ys.map cv)) (h1 : ρ1[i]? = some (some (pin v0 (aLD X.K (xs.map cv)))))
    (hbase : attributeBase o "extend" X.env (eval o X.env) = eval o X.env := by rfl) (hfew : ((backTo cpos (starEach [e] X.env)).all (fun x => !x.1) && (backToKw cpos (keywordEach [] X.env)).all (fun x => x.1.isSome) && decide ([e].length + ([] : List Keyword).length + (if ([] : List Keyword).isEmpty then 0 else 1) < 30)) = true := by rfl)
    (hline : (apos.endLine == cpos.line) = true := by rfl) (hs : starEach [e] X.env = (false, eval e X.env) :: starEach [] X.env := by rfl) (hplain : (backTo cpos (starEach [] X.env)).any (·.1) = false := by rfl) :
    XE X (.Call (.Attribute o "extend" apos) [e] [] cpos) ρ (ρ1.set i (some (pin v0 (aLD X.K ((xs ++ ys).map cv))))) (aD X.K .none) := fun E T t σ H l st Q k =>
  wE.of (pe_bm PySem.F.plainAttrs_list PySem.F.slot_list_extend PySem.F.type_list_extend mt_extend peS (pa_cons peS pa_nil hs) hbase hfew hline hs hplain) (ho E T t σ H l st _ fun x H1 st1 => by
    obtain ⟨e0, ty⟩ := ST.isL (X := X) l st1 h0
    subst e0
    refine ⟨ty, he E (_ :: T) (_ :: t) σ H1 (by simp [l]) st1 _ fun y H2 st2 => ?_⟩
    have st3 := ST.drop2 st2
    obtain ⟨G, F, Fv, f, cs, q⟩ := ST.one st3
    obtain ⟨p2, us, e1, e2, e3⟩ := r l cs f.gh q
    have st4 : ST E (some (aAll X.K us (ys.map cv)) :: (T ++ ρ1)) (some .non :: (t ++ σ)) H2 := ⟨G, F, f, .non, [], F, rfl, rfl, ⟨e3, rfl⟩, cs⟩
    obtain ⟨p, vs, e6, h4, hl, go⟩ := ST.modL l st4 h1
    have hvl : vs.length = xs.length := by simpa using hl
    have hul : us.length = ys.length := by simpa using e3.len
    refine ⟨p, p2, vs, us, e6, by rw [e1], h4, e2, by rw [hvl, hul]; exact sz_of hz, k _ _ ?_⟩
    exact ST.putN X.K (go (((xs ++ ys).map cv).map (aD X.K)) (vs ++ us) fun G H F1 F2 c q => by
      obtain ⟨q3, q4⟩ := csD c
      obtain ⟨q5, q6⟩ := q
      refine ⟨[], fun b hb => by simp at hb, fun _ => by simp, csD' ?_⟩
      rw [List.map_append]
      exact q3.append q5))
/-- tuple(xs) of a list -/
theorem ST.newT' {E : Ent} {K : PySem.W.Frag} {L : Cl} {C : L2.St} {G H : Hp} {F : List Addr} {p : Addr} {vs : List V} {ds : List PyData} (f : Frm E G H F) (c : Cs G H L C F) (n : H p = none) (q : DqAll K G vs ds) : ST E (some (aD K (.tuple ds)) :: L) (some (.ref p) :: C) (upd H p (.tup vs)) := ST.newT f c n q
theorem xc_tuple {β : Type} [Cd β] {xs : List β} (ha : XE X a ρ ρ1 A) (r : Rls X.K ρ1 A (xs.map Cd.d)) (hm : X.mg "tuple" = none) (hg : Gl X "tuple" := by rfl) (hs : starEach [a] X.env = [(false, eval a X.env)] := by rfl) (hpl : (backTo pos (starEach [] X.env)).any (·.1) = false := by rfl) : XE X (.Call (.Name "tuple" p) [a] [] pos) ρ ρ1 (aD X.K (.tuple (xs.map Cd.d))) :=
  xe_callTy call_tuple_of (xa_cons ha xa_nil hs) (fun E T t σ vs H Q l hl st k => by
    obtain ⟨v, rfl⟩ := vs1 hl
    obtain ⟨G, F, Fv, f, cs, q⟩ := ST.one st
    obtain ⟨p, ys, e1, e2, e3⟩ := r l cs f.gh q
    exact ⟨p, ys, by rw [e1], .inl ⟨e2, fun l hl => k _ _ (ST.newT f cs hl e3)⟩⟩) hm (by decide +kernel) hg (by decide) (by decide) hs hpl
def toT4 {β : Type} : List β → Option (T4 β β β β)
  | [a, b, c, d] => some ⟨a, b, c, d⟩
  | _ => none
theorem xe_toT4 {β : Type} [Cd β] {xs : List β} {t : T4 β β β β} (h : XE X a ρ ρ1 (aD X.K (.tuple (xs.map Cd.d)))) (e : toT4 xs = some t) : XE X a ρ ρ1 (aD X.K (Cd.d t)) := by
  match xs, e with
  | [_, _, _, _], e => cases e; exact h
end
end Mr

set_option Elab.async false
set_option linter.all false
set_option maxRecDepth 100000
/-! states written out -/
namespace Mr
open PySem PySem.Spec PyProof.Rows L2
section
variable {X : Cx} {ω : Type} {sts : List Stmt} {m : Option ω} {Φ : ω → Ent → Ends → Prop}
theorem xg_st (ρ0 : Cl) {ρ : Cl} (e : ρ0 = ρ) (h : XG X sts ρ0 m Φ) : XG X sts ρ m Φ := e ▸ h
end
end Mr

set_option Elab.async false
set_option linter.all false
set_option maxRecDepth 100000
/-! places: where in a state an owned thing stands; instances of classes -/
namespace Mr
open PySem PySem.Spec PyProof.Rows L2
structure Own (ρ : Cl) (v0 : V) (A : OA) (w : OA → Cl) : Prop where
  get : ∀ {G H : Hp} {T : Cl} {t σ : L2.St} {F : List Addr}, T.length = t.length → Cs G H (T ++ ρ) (t ++ σ) F → ∃ F1 F2, F.Perm (F1 ++ F2) ∧ A.P G H v0 F1 ∧
    ∀ {G' H' : Hp} {F1' : List Addr} {B : OA}, Ex G G' → Ex G' H' → (∀ b ∈ F2, ∀ o, H b = some o → H' b = some o) → B.P G' H' v0 F1' → ∃ F', F'.Perm (F1' ++ F2) ∧ Cs G' H' (T ++ w B) (t ++ σ) F'
theorem Own.slot {ρ : Cl} {v0 : V} {A : OA} (i : Nat) (h : ρ[i]? = some (some (pin v0 A))) : Own ρ v0 A (fun B => ρ.set i (some (pin v0 B))) := ⟨fun {G H T t σ F} l c => by
  obtain ⟨v, F1, F2, e1, e2, ⟨e3, q⟩, c2⟩ := c.slot l h
  subst e3
  refine ⟨F1, F2, e2, q, fun {G' H' F1' B} e e' k p => ?_⟩
  obtain ⟨F', a, b⟩ := (c2.mono e e' k).back l (lt_of_get h) e1 (A := pin v B) ⟨rfl, p⟩
  exact ⟨F', a, b⟩⟩
/-- an instance: its attributes in the order in which they were given -/
def aObj (C : Addr) (ns : List Str) (As : List OA) : OA := ⟨fun G H v F => ∃ p dx vs F', v = .ref p ∧ F = p :: F' ∧ H p = some (.ins C dx (ns.zip vs)) ∧ vs.length = ns.length ∧ Cs G H (As.map some) (vs.map some) F', fun h e e' k => by
  obtain ⟨p, dx, vs, F', e1, e2, h1, hl, c⟩ := h
  subst e2
  exact ⟨p, dx, vs, F', e1, rfl, k p (by simp) _ h1, hl, c.mono e e' fun b hb => k b (List.mem_cons_of_mem _ hb)⟩⟩
theorem Own.fld {ρ : Cl} {a0 v0 : V} {A : OA} {C : Addr} {ns : List Str} {As : List OA} {w : OA → Cl} (O : Own ρ a0 (aObj C ns As) w) (k : Nat) (hk : As[k]? = some (pin v0 A)) : Own ρ v0 A (fun B => w (aObj C ns (As.set k (pin v0 B)))) := ⟨fun {G H T t σ F} l c => by
  obtain ⟨F1, F2, e1, ⟨p, dx, vs, F', e2, e3, h1, hl, c1⟩, go⟩ := O.get l c
  subst e2 e3
  obtain ⟨v, Fa, Fb, ev, e4, ⟨e5, q⟩, c2⟩ := c1.getP hk
  subst e5
  have pm : (p :: F' ++ F2).Perm (Fa ++ (p :: Fb ++ F2)) := by
    have q1 : (p :: F' ++ F2).Perm (p :: (Fa ++ Fb) ++ F2) := List.Perm.append_right F2 (List.Perm.cons p e4)
    refine q1.trans ?_
    show (p :: (Fa ++ Fb ++ F2)).Perm (Fa ++ (p :: (Fb ++ F2)))
    rw [List.append_assoc]
    exact List.perm_middle.symm
  refine ⟨Fa, p :: Fb ++ F2, e1.trans pm, q, fun {G' H' Fa' B} e e' kp pB => ?_⟩
  have c3 := c2.mono e e' fun b hb => kp b (by simp [hb])
  obtain ⟨F3, a3, c4⟩ := c3.join (A := pin v B) (v := v) (F1 := Fa') (by rw [List.length_map]; exact lt_of_get hk) ⟨rfl, pB⟩
  have e6 : (vs.map some).set k (some v) = vs.map some := set_get (by rw [List.getElem?_map, ev]; rfl)
  rw [e6] at c4
  have c4 : Cs G' H' ((As.set k (pin v B)).map some) (vs.map some) F3 := by simpa [List.map_set] using c4
  obtain ⟨F5, a5, c5⟩ := go e e' (fun b hb => kp b (by simp [hb])) (B := aObj C ns (As.set k (pin v B))) (F1' := p :: F3) ⟨p, dx, vs, F3, rfl, rfl, kp p (by simp) _ h1, hl, c4⟩
  refine ⟨F5, a5.trans ?_, c5⟩
  have q1 : (p :: F3 ++ F2).Perm (p :: (Fa' ++ Fb) ++ F2) := List.Perm.append_right F2 (List.Perm.cons p a3)
  refine q1.trans ?_
  show (p :: (Fa' ++ Fb ++ F2)).Perm (Fa' ++ (p :: (Fb ++ F2)))
  rw [List.append_assoc]
  exact List.perm_middle.symm⟩
/-- an item of a list -/
theorem Own.itm {ρ : Cl} {a0 v0 : V} {A : OA} {As : List OA} {w : OA → Cl} (O : Own ρ a0 (aL As) w) (k : Nat) (hk : As[k]? = some (pin v0 A)) : Own ρ v0 A (fun B => w (aL (As.set k (pin v0 B)))) := ⟨fun {G H T t σ F} l c => by
  obtain ⟨F1, F2, e1, ⟨p, vs, F', e2, e3, h1, c1⟩, go⟩ := O.get l c
  subst e2 e3
  obtain ⟨v, Fa, Fb, ev, e4, ⟨e5, q⟩, c2⟩ := c1.getP hk
  subst e5
  have pm : (p :: F' ++ F2).Perm (Fa ++ (p :: Fb ++ F2)) := by
    have q1 : (p :: F' ++ F2).Perm (p :: (Fa ++ Fb) ++ F2) := List.Perm.append_right F2 (List.Perm.cons p e4)
    refine q1.trans ?_
    show (p :: (Fa ++ Fb ++ F2)).Perm (Fa ++ (p :: (Fb ++ F2)))
    rw [List.append_assoc]
    exact List.perm_middle.symm
  refine ⟨Fa, p :: Fb ++ F2, e1.trans pm, q, fun {G' H' Fa' B} e e' kp pB => ?_⟩
  have c3 := c2.mono e e' fun b hb => kp b (by simp [hb])
  obtain ⟨F3, a3, c4⟩ := c3.join (A := pin v B) (v := v) (F1 := Fa') (by rw [List.length_map]; exact lt_of_get hk) ⟨rfl, pB⟩
  have e6 : (vs.map some).set k (some v) = vs.map some := set_get (by rw [List.getElem?_map, ev]; rfl)
  rw [e6] at c4
  have c4 : Cs G' H' ((As.set k (pin v B)).map some) (vs.map some) F3 := by simpa [List.map_set] using c4
  obtain ⟨F5, a5, c5⟩ := go e e' (fun b hb => kp b (by simp [hb])) (B := aL (As.set k (pin v B))) (F1' := p :: F3) ⟨p, vs, F3, rfl, rfl, kp p (by simp) _ h1, c4⟩
  refine ⟨F5, a5.trans ?_, c5⟩
  have q1 : (p :: F3 ++ F2).Perm (p :: (Fa' ++ Fb) ++ F2) := List.Perm.append_right F2 (List.Perm.cons p a3)
  refine q1.trans ?_
  show (p :: (Fa' ++ Fb ++ F2)).Perm (Fa' ++ (p :: (Fb ++ F2)))
  rw [List.append_assoc]
  exact List.perm_middle.symm⟩
theorem ST.modW {E : Ent} {T ρ : Cl} {t σ : L2.St} {H : Hp} {B : OA} {y v0 : V} {As : List OA} {w : OA → Cl} (l : T.length = t.length) (st : ST E (some B :: (T ++ ρ)) (some y :: (t ++ σ)) H) (O : Own ρ v0 (aL As) w) :
    ∃ p vs, v0 = .ref p ∧ H p = some (.lst vs) ∧ vs.length = As.length ∧ ∀ (As' : List OA) (vs' : List V),
      (∀ G H F1 F2, Cs G H (As.map some) (vs.map some) F1 → B.P G H y F2 → ∃ F3, (∀ b ∈ F3, b ∈ F1 ++ F2) ∧ ((F1 ++ F2).Nodup → F3.Nodup) ∧ Cs G H (As'.map some) (vs'.map some) F3) →
      ST E (T ++ w (aL As')) (t ++ σ) (upd H p (.lst vs')) := by
  obtain ⟨G, F, f, y', Fb, F0, e1, e2, hb, cs⟩ := st
  cases e1
  subst e2
  obtain ⟨F1, F2, e4, ⟨p, vs, F', e6, e7, h1, c1⟩, back⟩ := O.get l cs
  subst e6 e7
  refine ⟨p, vs, rfl, h1, by simpa using c1.len.symm, fun As' vs' k => ?_⟩
  have perm : (Fb ++ F0).Perm ((p :: (F' ++ Fb)) ++ F2) := by
    refine (List.Perm.append_left Fb e4).trans ?_
    have q : (Fb ++ (p :: F' ++ F2)).Perm ((p :: F' ++ F2) ++ Fb) := List.perm_append_comm
    refine q.trans ?_
    show (p :: (F' ++ F2 ++ Fb)).Perm (p :: ((F' ++ Fb) ++ F2))
    refine List.Perm.cons p ?_
    rw [List.append_assoc, List.append_assoc]
    exact List.Perm.append_left F' List.perm_append_comm
  have f1 := f.perm perm
  have f2 : Frm ⟨G, H, p :: (F' ++ Fb)⟩ G H (p :: (F' ++ Fb)) := (f1.less (List.sublist_append_left _ _)).start
  have f3 := Frm.write (o := .lst vs') f2
  have nd := f2.nd
  have np : ∀ b ∈ F' ++ Fb, b ≠ p := fun b hb z => by
    subst z
    exact (List.nodup_cons.mp nd).1 hb
  have keep : ∀ b ∈ F' ++ Fb, ∀ o, H b = some o → upd H p (.lst vs') b = some o := fun b hb o q => by rw [upd_ne (np b hb)]; exact q
  obtain ⟨F3, k1, k2, k3⟩ := k G (upd H p (.lst vs')) F' Fb (c1.mono (.refl _) f3.gh fun b hb => keep b (List.mem_append_left _ hb)) (B.mono hb (.refl _) f3.gh fun b hb => keep b (List.mem_append_right _ hb))
  have f4 : Frm ⟨G, H, p :: (F' ++ Fb)⟩ G (upd H p (.lst vs')) (p :: F3) := f3.sub (List.nodup_cons.mpr ⟨fun z => (List.nodup_cons.mp nd).1 (k1 p z), k2 (List.nodup_cons.mp nd).2⟩) fun b hb => by
    rcases List.mem_cons.mp hb with z | z
    · exact z ▸ List.mem_cons_self
    · exact List.mem_cons_of_mem _ (k1 b z)
  obtain ⟨f5, st5⟩ := f.step perm f4
  obtain ⟨F6, e8, c4⟩ := back (.refl _) f5.gh st5 (B := aL As') (F1' := p :: F3) ⟨p, vs', F3, rfl, rfl, upd_same, k3⟩
  exact ⟨G, F6, f5.perm e8.symm, c4⟩
/-- an instance is changed -/
theorem ST.modO {E : Ent} {T ρ : Cl} {t σ : L2.St} {H : Hp} {B : OA} {y v0 : V} {C : Addr} {ns : List Str} {As : List OA} {w : OA → Cl} (l : T.length = t.length) (st : ST E (some B :: (T ++ ρ)) (some y :: (t ++ σ)) H) (O : Own ρ v0 (aObj C ns As) w) :
    ∃ p dx vs, v0 = .ref p ∧ H p = some (.ins C dx (ns.zip vs)) ∧ vs.length = ns.length ∧ vs.length = As.length ∧ ∀ (ns' : List Str) (As' : List OA) (vs' : List V), vs'.length = ns'.length →
      (∀ G H F1 F2, Cs G H (As.map some) (vs.map some) F1 → B.P G H y F2 → ∃ F3, (∀ b ∈ F3, b ∈ F1 ++ F2) ∧ ((F1 ++ F2).Nodup → F3.Nodup) ∧ Cs G H (As'.map some) (vs'.map some) F3) →
      ST E (T ++ w (aObj C ns' As')) (t ++ σ) (upd H p (.ins C dx (ns'.zip vs'))) := by
  obtain ⟨G, F, f, y', Fb, F0, e1, e2, hb, cs⟩ := st
  cases e1
  subst e2
  obtain ⟨F1, F2, e4, ⟨p, dx, vs, F', e6, e7, h1, hl, c1⟩, back⟩ := O.get l cs
  subst e6 e7
  refine ⟨p, dx, vs, rfl, h1, hl, by simpa using c1.len.symm, fun ns' As' vs' hl' k => ?_⟩
  have perm : (Fb ++ F0).Perm ((p :: (F' ++ Fb)) ++ F2) := by
    refine (List.Perm.append_left Fb e4).trans ?_
    have q : (Fb ++ (p :: F' ++ F2)).Perm ((p :: F' ++ F2) ++ Fb) := List.perm_append_comm
    refine q.trans ?_
    show (p :: (F' ++ F2 ++ Fb)).Perm (p :: ((F' ++ Fb) ++ F2))
    refine List.Perm.cons p ?_
    rw [List.append_assoc, List.append_assoc]
    exact List.Perm.append_left F' List.perm_append_comm
  have f1 := f.perm perm
  have f2 : Frm ⟨G, H, p :: (F' ++ Fb)⟩ G H (p :: (F' ++ Fb)) := (f1.less (List.sublist_append_left _ _)).start
  have f3 := Frm.write (o := .ins C dx (ns'.zip vs')) f2
  have nd := f2.nd
  have np : ∀ b ∈ F' ++ Fb, b ≠ p := fun b hb z => by
    subst z
    exact (List.nodup_cons.mp nd).1 hb
  have keep : ∀ b ∈ F' ++ Fb, ∀ o, H b = some o → upd H p (.ins C dx (ns'.zip vs')) b = some o := fun b hb o q => by rw [upd_ne (np b hb)]; exact q
  obtain ⟨F3, k1, k2, k3⟩ := k G (upd H p (.ins C dx (ns'.zip vs'))) F' Fb (c1.mono (.refl _) f3.gh fun b hb => keep b (List.mem_append_left _ hb)) (B.mono hb (.refl _) f3.gh fun b hb => keep b (List.mem_append_right _ hb))
  have f4 : Frm ⟨G, H, p :: (F' ++ Fb)⟩ G (upd H p (.ins C dx (ns'.zip vs'))) (p :: F3) := f3.sub (List.nodup_cons.mpr ⟨fun z => (List.nodup_cons.mp nd).1 (k1 p z), k2 (List.nodup_cons.mp nd).2⟩) fun b hb => by
    rcases List.mem_cons.mp hb with z | z
    · exact z ▸ List.mem_cons_self
    · exact List.mem_cons_of_mem _ (k1 b z)
  obtain ⟨f5, st5⟩ := f.step perm f4
  obtain ⟨F6, e8, c4⟩ := back (.refl _) f5.gh st5 (B := aObj C ns' As') (F1' := p :: F3) ⟨p, dx, vs', F3, rfl, rfl, upd_same, hl', k3⟩
  exact ⟨G, F6, f5.perm e8.symm, c4⟩
theorem ST.isW {X : Cx} {E : Ent} {T ρ : Cl} {t σ : L2.St} {H : Hp} {v0 v : V} {As : List OA} {w : OA → Cl} (l : T.length = t.length) (st : ST E (some (aV v0) :: (T ++ ρ)) (some v :: (t ++ σ)) H) (O : Own ρ v0 (aL As) w) : v = v0 ∧ tyV X.K "list" v H := by
  obtain ⟨G, F, Fv, f, cs, e0, _⟩ := ST.one st
  obtain ⟨F1, F2, e4, ⟨p, vs, F', e6, e7, h1, c1⟩, _⟩ := O.get l cs
  subst e0 e6
  exact ⟨rfl, .inl ⟨rfl, vs, .inl (.inl h1)⟩⟩
theorem rmW {K : PySem.W.Frag} {ρ : Cl} {ds : List PyData} {v0 : V} {w : OA → Cl} (O : Own ρ v0 (aLD K ds) w) : Rlm K ρ (aV v0) ds := fun l c e p => by
  obtain ⟨e0, _⟩ := p
  obtain ⟨F1, F2, e1, q, _⟩ := O.get l c
  subst e0
  exact rmL l c e q
theorem rsW {K : PySem.W.Frag} {ρ : Cl} {As : List OA} {v0 : V} {w : OA → Cl} (O : Own ρ v0 (aL As) w) : Rsq K ρ (aV v0) As.length := fun l c e p => by
  obtain ⟨e0, _⟩ := p
  obtain ⟨F1, F2, e1, q, _⟩ := O.get l c
  subst e0
  exact rsL l c e q
section
variable {X : Cx} {ρ ρ1 ρ2 ρ3 : Cl} {a b c e o : Expr} {pos p apos cpos : Pos} {A B : OA} {As As0 : List OA} {d : PyData} {ds : List PyData} {v0 : V} {w w0 : OA → Cl}
theorem xe_appendW (ho : XE X o ρ ρ (aV v0)) (h0 : Own ρ v0 (aL As0) w0) (he : XE X e ρ ρ1 B) (h1 : Own ρ1 v0 (aL As) w) (hz : As.length < sizeLine)
    (hbase : attributeBase o "append" X.env (eval o X.env) = eval o X.env := by rfl) (hfew : ((backTo cpos (starEach [e] X.env)).all (fun x => !x.1) && (backToKw cpos (keywordEach [] X.env)).all (fun x => x.1.isSome) && decide ([e].length + ([] : List Keyword).length + (if ([] : List Keyword).isEmpty then 0 else 1) < 30)) = true := by rfl)
    (hline : (apos.endLine == cpos.line) = true := by rfl) (hs : starEach [e] X.env = (false, eval e X.env) :: starEach [] X.env := by rfl) (hplain : (backTo cpos (starEach [] X.env)).any (·.1) = false := by rfl) :
    XE X (.Call (.Attribute o "append" apos) [e] [] cpos) ρ (w (aL (As ++ [B]))) (aD X.K .none) := fun E T t σ H l st Q k =>
  wE.of (pe_bm PySem.F.plainAttrs_list PySem.F.slot_list_append PySem.F.type_list_append mt_append peS (pa_cons peS pa_nil hs) hbase hfew hline hs hplain) (ho E T t σ H l st _ fun x H1 st1 => by
    obtain ⟨e0, ty⟩ := ST.isW (X := X) l st1 h0
    subst e0
    refine ⟨ty, he E (_ :: T) (_ :: t) σ H1 (by simp [l]) st1 _ fun y H2 st2 => ?_⟩
    have st3 : ST E (some B :: (T ++ ρ1)) (some y :: (t ++ σ)) H2 := by
      exact ST.drop2 st2
    obtain ⟨p, vs, e1, h2, hl, go⟩ := ST.modW l st3 h1
    refine ⟨p, vs, y, e1, rfl, h2, by rw [hl]; exact hz, k _ _ ?_⟩
    have st4 := go (As ++ [B]) (vs ++ [y]) fun G H F1 F2 c q => ⟨F1 ++ F2, fun b hb => hb, fun n => n, by simpa using c.append (Cs.ofNil q)⟩
    obtain ⟨G, F, f, c⟩ := st4
    exact ST.put f c .non)
theorem xe_appendDW {α : Type} {cv : α → PyData} {xs : List α} {x : α} (ho : XE X o ρ ρ (aV v0)) (h0 : Own ρ v0 (aL As0) w0) (he : XE X e ρ ρ1 (aD X.K (cv x))) (h1 : Own ρ1 v0 (aLD X.K (xs.map cv)) w) (hz : xs.length < sizeLine)
    (hbase : attributeBase o "append" X.env (eval o X.env) = eval o X.env := by rfl) (hfew : ((backTo cpos (starEach [e] X.env)).all (fun x => !x.1) && (backToKw cpos (keywordEach [] X.env)).all (fun x => x.1.isSome) && decide ([e].length + ([] : List Keyword).length + (if ([] : List Keyword).isEmpty then 0 else 1) < 30)) = true := by rfl)
    (hline : (apos.endLine == cpos.line) = true := by rfl) (hs : starEach [e] X.env = (false, eval e X.env) :: starEach [] X.env := by rfl) (hplain : (backTo cpos (starEach [] X.env)).any (·.1) = false := by rfl) :
    XE X (.Call (.Attribute o "append" apos) [e] [] cpos) ρ (w (aLD X.K ((xs ++ [x]).map cv))) (aD X.K .none) := by
  have q := xe_appendW (apos := apos) (cpos := cpos) ho h0 he h1 (by simpa using hz) hbase hfew hline hs hplain
  have e : (xs.map cv).map (aD X.K) ++ [aD X.K (cv x)] = ((xs ++ [x]).map cv).map (aD X.K) := by simp
  rwa [e] at q
theorem xp_setLW {j : Nat} {n : Int} (ho : XE X o ρ ρ (aV v0)) (hb : XE X b ρ ρ1 (aD X.K (.int n))) (h1 : Own ρ1 v0 (aL As) w) (hn : ixN As.length n = some j)
    (ha : ∀ v, assign (.Subscript o b pos) X.env v = (do
      let ov ← holding [v] (eval o X.env)
      let iv ← holding [v, ov] (eval b X.env)
      standAt pos
      holding [v, ov, iv] (setItem ov iv v)
      release [v, ov, iv] []) := by intro _; rfl) : XP X (.Subscript o b pos) B ρ (w (aL (As.set j B))) := fun E T t σ H v l st Q k =>
  wG.of (pg_sub peS peS set_list ha) (ho E (_ :: T) (_ :: t) σ H (by simp [l]) st _ fun x H1 st1 => by
    refine hb E (_ :: _ :: T) (_ :: _ :: t) σ H1 (by simp [l]) st1 _ fun y H2 st2 => ?_
    obtain ⟨G, F, f, c, q1⟩ := ST.top st2
    cases q1
    obtain ⟨u, F1, F2, e1, e2, ⟨e3, e4⟩, c⟩ := c
    cases e1
    subst e4 e2 e3
    obtain ⟨p, vs, e5, h2, hl, go⟩ := ST.modW l ⟨G, _, f, c⟩ h1
    have hj : j < As.length := by
      unfold ixN at hn
      split at hn
      · split at hn
        · cases hn; omega
        · cases hn
      · split at hn
        · cases hn; omega
        · cases hn
    exact ⟨p, vs, n, j, e5, rfl, h2, by rw [hl]; exact hn, k _ _ (go _ _ fun G H F1 F2 c q => cs_set hj c q)⟩)
theorem xp_setDW {α : Type} {cv : α → PyData} {xs : List α} {x : α} {v0 : V} {j : Nat} {n : Int} (ho : XE X o ρ ρ (aV v0)) (hb : XE X b ρ ρ1 (aD X.K (.int n))) (h1 : Own ρ1 v0 (aLD X.K (xs.map cv)) w) (hn : ixN xs.length n = some j)
    (ha : ∀ v, assign (.Subscript o b pos) X.env v = (do
      let ov ← holding [v] (eval o X.env)
      let iv ← holding [v, ov] (eval b X.env)
      standAt pos
      holding [v, ov, iv] (setItem ov iv v)
      release [v, ov, iv] []) := by intro _; rfl) : XP X (.Subscript o b pos) (aD X.K (cv x)) ρ (w (aLD X.K ((xs.set j x).map cv))) := by
  have q := xp_setLW (B := aD X.K (cv x)) ho hb h1 (by simpa using hn) ha
  have e : ((xs.map cv).map (aD X.K)).set j (aD X.K (cv x)) = ((xs.set j x).map cv).map (aD X.K) := by simp [List.map_set]
  rwa [e] at q
variable {α : Type} {cv : α → PyData} {xs : List α}
theorem xe_popAtW {n : Int} {r : α × List α} (hr : popL xs n = some r) (ho : XE X o ρ ρ (aV v0)) (h0 : Own ρ v0 (aL As0) w0) (he : XE X e ρ ρ1 (aD X.K (.int n))) (h1 : Own ρ1 v0 (aLD X.K (xs.map cv)) w)
    (hbase : attributeBase o "pop" X.env (eval o X.env) = eval o X.env := by rfl) (hfew : ((backTo cpos (starEach [e] X.env)).all (fun x => !x.1) && (backToKw cpos (keywordEach [] X.env)).all (fun x => x.1.isSome) && decide ([e].length + ([] : List Keyword).length + (if ([] : List Keyword).isEmpty then 0 else 1) < 30)) = true := by rfl)
    (hline : (apos.endLine == cpos.line) = true := by rfl) (hs : starEach [e] X.env = (false, eval e X.env) :: starEach [] X.env := by rfl) (hplain : (backTo cpos (starEach [] X.env)).any (·.1) = false := by rfl) :
    XE X (.Call (.Attribute o "pop" apos) [e] [] cpos) ρ (w (aLD X.K (r.2.map cv))) (aD X.K (cv r.1)) := fun E T t σ H l st Q k =>
  wE.of (pe_bm PySem.F.plainAttrs_list PySem.F.slot_list_pop PySem.F.type_list_pop mt_popAt peS (pa_cons peS pa_nil hs) hbase hfew hline hs hplain) (ho E T t σ H l st _ fun x H1 st1 => by
    obtain ⟨e0, ty⟩ := ST.isW (X := X) l st1 h0
    subst e0
    refine ⟨ty, he E (_ :: T) (_ :: t) σ H1 (by simp [l]) st1 _ fun y H2 st2 => ?_⟩
    obtain ⟨G, F, f, c, q1⟩ := ST.top st2
    cases q1
    have st3 : ST E (T ++ ρ1) (t ++ σ) H2 := ST.pop (A := aV x) (x := some x) ⟨G, F, f, c⟩
    clear c f
    obtain ⟨G1, Fg, f, c⟩ := st3
    obtain ⟨F1, F2, e2, ⟨p, vs, F', e4, e5, h3, c1⟩, _⟩ := h1.get l c
    subst e4
    obtain ⟨q1, q2⟩ := csD c1
    obtain ⟨b1, b2, k0, hk, hx, er⟩ := popL_eq hr
    obtain ⟨v, hv, qv⟩ := q1.get (i := k0) (d := cv r.1) (by rw [List.getElem?_map, hx]; rfl)
    have st4 : ST E (some (aD X.K .none) :: ((some (aD X.K (cv r.1)) :: T) ++ ρ1)) (some .non :: ((some v :: t) ++ σ)) H2 := ST.putN X.K (ST.put f c qv)
    obtain ⟨p', vs', e6, h4, hl, go⟩ := ST.modW (T := some (aD X.K (cv r.1)) :: T) (t := some v :: t) (by simp [l]) st4 h1
    cases e6
    rw [h3] at h4
    cases h4
    refine ⟨p, vs, n, k0, v, rfl, rfl, h3, b1, b2, by rw [q1.map_eq]; exact hk, hv, k _ _ ?_⟩
    refine go ((r.2.map cv).map (aD X.K)) (vs.eraseIdx k0) fun G H F1 F2 c q => ?_
    obtain ⟨q3, q4⟩ := csD c
    refine ⟨[], fun b hb => by simp at hb, fun _ => by simp, csD' ?_⟩
    rw [er, map_erase]
    exact dq_erase k0 q3)
theorem xe_insertDW {n : Int} {x : α} {r : List α} (hr : insL xs n x = some r) (ho : XE X o ρ ρ (aV v0)) (h0 : Own ρ v0 (aL As0) w0) (he : XE X e ρ ρ1 (aD X.K (.int n))) (hb : XE X b ρ1 ρ2 (aD X.K (cv x))) (h1 : Own ρ2 v0 (aLD X.K (xs.map cv)) w)
    (hbase : attributeBase o "insert" X.env (eval o X.env) = eval o X.env := by rfl) (hfew : ((backTo cpos (starEach [e, b] X.env)).all (fun x => !x.1) && (backToKw cpos (keywordEach [] X.env)).all (fun x => x.1.isSome) && decide ([e, b].length + ([] : List Keyword).length + (if ([] : List Keyword).isEmpty then 0 else 1) < 30)) = true := by rfl)
    (hline : (apos.endLine == cpos.line) = true := by rfl) (hs : starEach [e, b] X.env = (false, eval e X.env) :: starEach [b] X.env := by rfl) (hs2 : starEach [b] X.env = [(false, eval b X.env)] := by rfl) (hplain : (backTo cpos (starEach [b] X.env)).any (·.1) = false := by rfl) :
    XE X (.Call (.Attribute o "insert" apos) [e, b] [] cpos) ρ (w (aLD X.K (r.map cv))) (aD X.K .none) := fun E T t σ H l st Q k =>
  wE.of (pe_bm PySem.F.plainAttrs_list PySem.F.slot_list_insert PySem.F.type_list_insert mt_insert peS (pa_cons peS (pa_cons peS pa_nil hs2) (by rw [hs])) hbase hfew hline hs hplain) (ho E T t σ H l st _ fun y H1 st1 => by
    obtain ⟨e0, ty⟩ := ST.isW (X := X) l st1 h0
    subst e0
    refine ⟨ty, he E (_ :: T) (_ :: t) σ H1 (by simp [l]) st1 _ fun z H2 st2 => hb E (_ :: _ :: T) (_ :: _ :: t) σ H2 (by simp [l]) st2 _ fun u H3 st3 => ?_⟩
    have st4 : ST E (some (aD X.K (cv x)) :: some (aD X.K (.int n)) :: (T ++ ρ2)) (some u :: some z :: (t ++ σ)) H3 := by
      obtain ⟨G, F, f, w, F1, F2, e1, e2, q, w2, F3, F4, e3, e4, q2, w5, F5, F6, e5, e6, q5, c⟩ := st3
      subst e6 e4 e2
      exact ⟨G, F1 ++ (F3 ++ F6), f.less (List.Sublist.append_left (List.Sublist.append_left (List.sublist_append_right _ _) F3) F1), w, F1, _, e1, rfl, q, w2, F3, F6, e3, rfl, q2, c⟩
    have ez : z = .int n := by
      obtain ⟨G, F, f, c, q1, q2⟩ := ST.top2 st4
      cases q1
      rfl
    subst ez
    have st5 := ST.drop2 st4
    obtain ⟨p, vs, e1, h2, hl, go⟩ := ST.modW l st5 h1
    obtain ⟨⟨b1, b2, b3⟩, er⟩ := insL_eq hr
    refine ⟨p, vs, n, u, e1, rfl, h2, by rw [hl]; simp; exact sz_lt b1, b2, b3, k _ _ ?_⟩
    have st6 := go ((r.map cv).map (aD X.K)) (vs.take n.toNat ++ [u] ++ vs.drop n.toNat) fun G H F1 F2 c q => by
      obtain ⟨q3, q4⟩ := csD c
      obtain ⟨q5, q6⟩ := q
      refine ⟨[], fun b hb => by simp at hb, fun _ => by simp, csD' ?_⟩
      rw [er]
      simp only [List.map_append, List.map_take, List.map_drop, List.map_cons, List.map_nil]
      exact ((q3.take _).append (.cons q5 .nil)).append (q3.drop _)
    exact ST.putN X.K st6)
theorem xe_extendDW {ys : List α} (hz : xs.length + ys.length ≤ 1000000) (ho : XE X o ρ ρ (aV v0)) (h0 : Own ρ v0 (aL As0) w0) (he : XE X e ρ ρ1 A) (r : Rlm X.K ρ1 A (ys.map cv)) (h1 : Own ρ1 v0 (aLD X.K (xs.map cv)) w)
    (hbase : attributeBase o "extend" X.env (eval o X.env) = eval o X.env := by rfl) (hfew : ((backTo cpos (starEach [e] X.env)).all (fun x => !x.1) && (backToKw cpos (keywordEach [] X.env)).all (fun x => x.1.isSome) && decide ([e].length + ([] : List Keyword).length + (if ([] : List Keyword).isEmpty then 0 else 1) < 30)) = true := by rfl)
    (hline : (apos.endLine == cpos.line) = true := by rfl) (hs : starEach [e] X.env = (false, eval e X.env) :: starEach [] X.env := by rfl) (hplain : (backTo cpos (starEach [] X.env)).any (·.1) = false := by rfl) :
    XE X (.Call (.Attribute o "extend" apos) [e] [] cpos) ρ (w (aLD X.K ((xs ++ ys).map cv))) (aD X.K .none) := fun E T t σ H l st Q k =>
  wE.of (pe_bm PySem.F.plainAttrs_list PySem.F.slot_list_extend PySem.F.type_list_extend mt_extend peS (pa_cons peS pa_nil hs) hbase hfew hline hs hplain) (ho E T t σ H l st _ fun x H1 st1 => by
    obtain ⟨e0, ty⟩ := ST.isW (X := X) l st1 h0
    subst e0
    refine ⟨ty, he E (_ :: T) (_ :: t) σ H1 (by simp [l]) st1 _ fun y H2 st2 => ?_⟩
    have st3 := ST.drop2 st2
    obtain ⟨G, F, Fv, f, cs, q⟩ := ST.one st3
    obtain ⟨p2, us, e1, e2, e3⟩ := r l cs f.gh q
    have st4 : ST E (some (aAll X.K us (ys.map cv)) :: (T ++ ρ1)) (some .non :: (t ++ σ)) H2 := ⟨G, F, f, .non, [], F, rfl, rfl, ⟨e3, rfl⟩, cs⟩
    obtain ⟨p, vs, e6, h4, hl, go⟩ := ST.modW l st4 h1
    have hvl : vs.length = xs.length := by simpa using hl
    have hul : us.length = ys.length := by simpa using e3.len
    refine ⟨p, p2, vs, us, e6, by rw [e1], h4, e2, by rw [hvl, hul]; exact sz_of hz, k _ _ ?_⟩
    exact ST.putN X.K (go (((xs ++ ys).map cv).map (aD X.K)) (vs ++ us) fun G H F1 F2 c q => by
      obtain ⟨q3, q4⟩ := csD c
      obtain ⟨q5, q6⟩ := q
      refine ⟨[], fun b hb => by simp at hb, fun _ => by simp, csD' ?_⟩
      rw [List.map_append]
      exact q3.append q5))
end
end Mr

set_option Elab.async false
set_option linter.all false
set_option maxRecDepth 100000
/-! attributes, instances made, methods -/
namespace Mr
open PySem PySem.Spec PyProof.Rows L2
theorem lookup_zip {f : Str} : ∀ {ns : List Str} {vs : List V} {k : Nat} {v : V}, ns.Nodup → ns[k]? = some f → vs[k]? = some v → (ns.zip vs).lookup f = some v
  | [], _, _, _, _, h, _ => by simp at h
  | _ :: _, [], _, _, _, _, h => by simp at h
  | n :: ns, u :: vs, 0, v, _, h, h2 => by
    have e1 : n = f := by simpa using h
    have e2 : u = v := by simpa using h2
    subst e1 e2
    have hb : (n == n) = true := beq_iff_eq.mpr rfl
    show List.lookup n ((n, u) :: ns.zip vs) = _
    simp only [List.lookup, hb]
  | n :: ns, u :: vs, k + 1, v, nd, h, h2 => by
    have h : ns[k]? = some f := by simpa using h
    have h2 : vs[k]? = some v := by simpa using h2
    have ne : f ≠ n := fun e => (List.nodup_cons.mp nd).1 (e ▸ List.mem_of_getElem? h)
    have hb : (f == n) = false := beq_eq_false_iff_ne.mpr ne
    show List.lookup f ((n, u) :: ns.zip vs) = _
    simp only [List.lookup, hb]
    exact lookup_zip (List.nodup_cons.mp nd).2 h h2
theorem lookup_no {f : Str} : ∀ {ns : List Str} {vs : List V}, f ∉ ns → (ns.zip vs).lookup f = none
  | [], _, _ => rfl
  | _ :: _, [], _ => rfl
  | n :: ns, u :: vs, h => by
    have hb : (f == n) = false := beq_eq_false_iff_ne.mpr fun e => h (by simp [e])
    show List.lookup f ((n, u) :: ns.zip vs) = _
    simp only [List.lookup, hb]
    exact lookup_no fun q => h (by simp [q])
theorem putF_zip {f : Str} {y : V} : ∀ {ns : List Str} {vs : List V} {k : Nat}, ns.Nodup → ns[k]? = some f → vs.length = ns.length → putF f y (ns.zip vs) = ns.zip (vs.set k y)
  | [], _, _, _, h, _ => by simp at h
  | _ :: _, [], _, _, _, h => by simp at h
  | n :: ns, u :: vs, 0, _, h, _ => by
    have e1 : n = f := by simpa using h
    subst e1
    show (if n = n then (n, y) :: ns.zip vs else _) = _
    rw [if_pos rfl]
    rfl
  | n :: ns, u :: vs, k + 1, nd, h, hl => by
    have h : ns[k]? = some f := by simpa using h
    have ne : n ≠ f := fun e => (List.nodup_cons.mp nd).1 (e ▸ List.mem_of_getElem? h)
    show (if n = f then _ else (n, u) :: putF f y (ns.zip vs)) = _
    rw [if_neg ne, putF_zip (List.nodup_cons.mp nd).2 h (by simpa using hl)]
    rfl
theorem putF_new {f : Str} {y : V} : ∀ {ns : List Str} {vs : List V}, f ∉ ns → vs.length = ns.length → putF f y (ns.zip vs) = (ns ++ [f]).zip (vs ++ [y])
  | [], [], _, _ => rfl
  | [], _ :: _, _, h => by simp at h
  | _ :: _, [], _, h => by simp at h
  | n :: ns, u :: vs, h, hl => by
    have ne : n ≠ f := fun e => h (by simp [e])
    show (if n = f then _ else (n, u) :: putF f y (ns.zip vs)) = _
    rw [if_neg ne, putF_new (fun q => h (by simp [q])) (by simpa using hl)]
    rfl
section
variable {X : Cx} {ρ ρ1 ρ2 ρ3 : Cl} {a b c e o : Expr} {pos pos' tpos p apos cpos : Pos} {A B : OA} {As As0 : List OA} {d : PyData} {ds : List PyData} {a0 v0 : V} {w w0 : OA → Cl} {C : Addr} {ns : List Str} {f : Str} {ω : Type} {rest : List Stmt} {m : Option ω} {Φ : ω → Ent → Ends → Prop}
/-- o.f, data -/
theorem xe_fldD (k : Nat) (ho : XE X o ρ ρ1 (aV a0)) (O : Own ρ1 a0 (aObj C ns As) w) (c : Cls X.K C) (n : NoAttr X.K C f) (nd : ns.Nodup) (hf : ns[k]? = some f) (hk : As[k]? = some (aD X.K d)) (hb : attributeBase o f X.env (eval o X.env) = eval o X.env := by rfl) : XE X (.Attribute o f pos) ρ ρ1 (aD X.K d) := fun E T t σ H l st Q kk =>
  wE.of (pe_fld peS hb) (ho E T t σ H l st _ fun x H1 st1 => by
    obtain ⟨G, F, Fv, fr, cs, e0, _⟩ := ST.one st1
    subst e0
    obtain ⟨F1, F2, e1, ⟨p, dx, vs, F', e2, e3, h1, hl, c1⟩, go⟩ := O.get l cs
    obtain ⟨v, hv, hq⟩ := c1.getD hk
    exact ⟨p, C, dx, _, v, e2, h1, c, n, lookup_zip nd hf hv, kk v H1 (ST.put fr cs hq)⟩)
/-- o.f, owned -/
theorem xe_fldV (k : Nat) (ho : XE X o ρ ρ1 (aV a0)) (O : Own ρ1 a0 (aObj C ns As) w) (c : Cls X.K C) (n : NoAttr X.K C f) (nd : ns.Nodup) (hf : ns[k]? = some f) (hk : As[k]? = some (pin v0 A)) (hb : attributeBase o f X.env (eval o X.env) = eval o X.env := by rfl) : XE X (.Attribute o f pos) ρ ρ1 (aV v0) := fun E T t σ H l st Q kk =>
  wE.of (pe_fld peS hb) (ho E T t σ H l st _ fun x H1 st1 => by
    obtain ⟨G, F, Fv, fr, cs, e0, _⟩ := ST.one st1
    subst e0
    obtain ⟨F1, F2, e1, ⟨p, dx, vs, F', e2, e3, h1, hl, c1⟩, go⟩ := O.get l cs
    obtain ⟨v, Fa, Fb, hv, e4, ⟨e5, hq⟩, c2⟩ := c1.getP hk
    subst e5
    exact ⟨p, C, dx, _, v, e2, h1, c, n, lookup_zip nd hf hv, kk v H1 ⟨G, F, fr, v, [], F, rfl, rfl, ⟨rfl, rfl⟩, cs⟩⟩)
theorem ST.pinT {E : Ent} {L : Cl} {Cc : L2.St} {H : Hp} {y : V} (st : ST E (some B :: L) (some y :: Cc) H) : ST E (some (pin y B) :: L) (some y :: Cc) H := by
  obtain ⟨G, F, f, w, F1, F2, e1, e2, q, c⟩ := st
  cases e1
  exact ⟨G, F, f, y, F1, F2, rfl, e2, ⟨rfl, q⟩, c⟩
/-- o.f = e -/
theorem xg_fld (k : Nat) (he : XE X e ρ ρ1 B) (ho : XE X o ρ1 ρ1 (aV a0)) (O : Own ρ1 a0 (aObj C ns As) w) (c : Cls X.K C) (n : NoAttr X.K C f) (nd : ns.Nodup) (hf : ns[k]? = some f) (h : XG X rest (w (aObj C ns (As.set k B))) m Φ) (hz : ns.length < 1000 := by exact Nat.le_of_ble_eq_true rfl)
    (hs : swapsWith e (some (.Attribute o f pos')) pos.line X.env = pure false := by rfl) : XG X (.Assign [.Attribute o f pos'] e pos :: rest) ρ m Φ := fun r hr E σ H D st q =>
  wS.of (pss_cons (ps_fld peS peS hs) pssS) (he E [] [] σ H rfl st _ fun y H1 st1 => ho E [_] [_] σ H1 rfl st1 _ fun x H2 st2 => by
    have ex : x = a0 := by
      obtain ⟨G, F, Fv, f, cs, e0, _⟩ := ST.one st2
      exact e0
    subst ex
    obtain ⟨p, dx, vs, e1, h1, hl, hl2, go⟩ := ST.modO (T := []) (t := []) rfl (ST.pop st2) O
    have hk := lt_of_get hf
    refine ⟨p, C, dx, _, e1, h1, c, n, by rw [List.length_zip]; omega, ?_⟩
    rw [putF_zip nd hf hl]
    exact h r hr E σ _ D (go ns _ _ (by rw [List.length_set]; exact hl) fun G H F1 F2 c q => cs_set (by omega) c q) q)
/-- .. the thing is owned: its value is named -/
theorem xg_fldP (k : Nat) (he : XE X e ρ ρ1 B) (ho : XE X o ρ1 ρ1 (aV a0)) (O : Own ρ1 a0 (aObj C ns As) w) (c : Cls X.K C) (n : NoAttr X.K C f) (nd : ns.Nodup) (hf : ns[k]? = some f) (h : ∀ y, XG X rest (w (aObj C ns (As.set k (pin y B)))) m Φ) (hz : ns.length < 1000 := by exact Nat.le_of_ble_eq_true rfl)
    (hs : swapsWith e (some (.Attribute o f pos')) pos.line X.env = pure false := by rfl) : XG X (.Assign [.Attribute o f pos'] e pos :: rest) ρ m Φ := fun r hr E σ H D st q =>
  wS.of (pss_cons (ps_fld peS peS hs) pssS) (he E [] [] σ H rfl st _ fun y H1 st1 => ho E [_] [_] σ H1 rfl st1 _ fun x H2 st2 => by
    have ex : x = a0 := by
      obtain ⟨G, F, Fv, f, cs, e0, _⟩ := ST.one st2
      exact e0
    subst ex
    obtain ⟨p, dx, vs, e1, h1, hl, hl2, go⟩ := ST.modO (T := []) (t := []) rfl (ST.pinT (ST.pop st2)) O
    have hk := lt_of_get hf
    refine ⟨p, C, dx, _, e1, h1, c, n, by rw [List.length_zip]; omega, ?_⟩
    rw [putF_zip nd hf hl]
    exact h y r hr E σ _ D (go ns _ _ (by rw [List.length_set]; exact hl) fun G H F1 F2 c q => cs_set (by omega) c q) q)
/-- .. an attribute that is not there yet -/
theorem xg_fldN (he : XE X e ρ ρ1 B) (ho : XE X o ρ1 ρ1 (aV a0)) (O : Own ρ1 a0 (aObj C ns As) w) (c : Cls X.K C) (n : NoAttr X.K C f) (hf : f ∉ ns) (h : XG X rest (w (aObj C (ns ++ [f]) (As ++ [B]))) m Φ) (hz : ns.length < 1000 := by exact Nat.le_of_ble_eq_true rfl)
    (hs : swapsWith e (some (.Attribute o f pos')) pos.line X.env = pure false := by rfl) : XG X (.Assign [.Attribute o f pos'] e pos :: rest) ρ m Φ := fun r hr E σ H D st q =>
  wS.of (pss_cons (ps_fld peS peS hs) pssS) (he E [] [] σ H rfl st _ fun y H1 st1 => ho E [_] [_] σ H1 rfl st1 _ fun x H2 st2 => by
    have ex : x = a0 := by
      obtain ⟨G, F, Fv, f, cs, e0, _⟩ := ST.one st2
      exact e0
    subst ex
    obtain ⟨p, dx, vs, e1, h1, hl, hl2, go⟩ := ST.modO (T := []) (t := []) rfl (ST.pop st2) O
    refine ⟨p, C, dx, _, e1, h1, c, n, by rw [List.length_zip]; omega, ?_⟩
    rw [putF_new hf hl]
    exact h r hr E σ _ D (go _ _ _ (by simp [hl]) fun G H F1 F2 c q => ⟨F1 ++ F2, fun b hb => hb, fun n => n, by simpa using c.append (Cs.ofNil q)⟩) q)
/-- o.f += e | o.f -= e, ints -/
theorem xg_fldA {op : Operator} {g : Int → Int → Int} {rd : V → V → Hp → VK → Prop} {x z : Int} (k : Nat) (hop : InOp X op rd) (hrd : ∀ i j H Q, Q (.int (g i j)) H → rd (.int i) (.int j) H Q) (ho : XE X o ρ ρ (aV a0)) (O0 : Own ρ a0 (aObj C ns As0) w0) (hk0 : As0[k]? = some (aD X.K (.int x))) (he : XE X e ρ ρ1 (aD X.K (.int z))) (O : Own ρ1 a0 (aObj C ns As) w)
    (c : Cls X.K C) (n : NoAttr X.K C f) (nd : ns.Nodup) (hf : ns[k]? = some f) (h : XG X rest (w (aObj C ns (As.set k (aD X.K (.int (g x z)))))) m Φ) (hz : ns.length < 1000 := by exact Nat.le_of_ble_eq_true rfl) : XG X (.AugAssign (.Attribute o f tpos) op e pos :: rest) ρ m Φ := fun r hr E σ H D st q =>
  wS.of (pss_cons (ps_fldaug peS peS hop) pssS) (ho E [] [] σ H rfl st _ fun u H1 st1 => by
    obtain ⟨G, F, Fv, fr, cs, e0, _⟩ := ST.one st1
    subst e0
    have st2 : ST E ρ σ H1 := ST.pop st1
    obtain ⟨F1, F2, e1, ⟨p, dx, vs, F', e2, e3, h1, hl, c1⟩, go⟩ := O0.get (T := []) (t := []) rfl cs
    obtain ⟨v, hv, hq⟩ := c1.getD hk0
    cases hq
    subst e2
    refine ⟨p, C, dx, _, .int x, rfl, h1, c, n, lookup_zip nd hf hv, he E [] [] σ H1 rfl st2 _ fun y H2 st3 => ?_⟩
    obtain ⟨G2, F3, fr2, cs2, q2⟩ := ST.top st3
    cases q2
    refine hrd _ _ _ _ ?_
    obtain ⟨p', dx', vs', e4, h2, hl', hl2, go2⟩ := ST.modO (T := []) (t := []) rfl (ST.put (K := X.K) (v := .int (g x z)) fr2 cs2 (.int _)) O
    cases e4
    have hkk := lt_of_get hf
    refine ⟨dx', _, h2, by rw [List.length_zip]; omega, ?_⟩
    rw [putF_zip nd hf hl']
    exact h r hr E σ _ D (go2 ns _ _ (by rw [List.length_set]; exact hl') fun G H F1 F2 c q => cs_set (by omega) c q) q)
end
theorem rAdd_of (i j : Int) (H : Hp) (Q : VK) (h : Q (.int (i + j)) H) : rAdd (.int i) (.int j) H Q := ⟨i, j, rfl, rfl, h⟩
theorem rSub_of (i j : Int) (H : Hp) (Q : VK) (h : Q (.int (i - j)) H) : rSub (.int i) (.int j) H Q := ⟨i, j, rfl, rfl, h⟩

/-! ### methods -/
structure CalM (P : Program) (w : World) (K : PySem.W.Frag) (mg : Str → Option Value) (base : Heap) (k : Nat) (C : Addr) (x : Str) (sp : Sp) : Prop where
  ex : ∃ (f : Addr) (fd : FuncData) (ps : List Str), FnOk P w K mg base CX0 k f fd ps sp ∧ Meth K C x f ∧ Binds K fd ps []
structure CalC (P : Program) (w : World) (K : PySem.W.Frag) (mg : Str → Option Value) (base : Heap) (k : Nat) (C : Addr) (x : Str) (sp : Sp) : Prop where
  ex : ∃ (f : Addr) (fd : FuncData) (ps : List Str), FnOk P w K mg base CX0 k f fd ps sp ∧ mg x = some (.ref C) ∧ Mk K C f ∧ Binds K fd ps []
section
variable {X : Cx} {ρ ρ1 ρ2 ρ3 : Cl} {a b c e o : Expr} {es : List Expr} {pos p apos : Pos} {A A0 B : OA} {As As0 : List OA} {ls : List (Nat × Nat × V)} {δ γ : Type} {pre : δ → List OA} {m : δ → Option γ} {post : δ → γ → Cl} {ret : δ → γ → OA} {a0 : V} {w w0 : OA → Cl} {C : Addr} {ns : List Str} {x : Str} {xx : δ} {r : γ} {Po : Cl}
theorem meth_core {E : Ent} {T : Cl} {t σ : L2.St} {H : Hp} {vs : List V} {Q : VK} {XE' : XK} (l : T.length = t.length) (hl : vs.length = As.length) (st : ST E (As.map some ++ (T ++ ρ1)) (vs.map some ++ (t ++ σ)) H) (hv : ∀ p ∈ ls, vs[p.1]? = some p.2.2 ∧ σ[p.2.1]? = some (some p.2.2)) (O : Own ρ1 a0 A0 w)
    (hm : m xx = some r) (hpre : pre xx = A0 :: As) (hpost : post xx r = some B :: Po) (hP : Po.length = As.length) (n1 : (ls.map (·.1)).Nodup) (n2 : (ls.map (·.2.1)).Nodup) (hls : ∀ p ∈ ls, (w B)[p.2.1]? = some none)
    (kk : ∀ v H', ST E (some (ret xx r) :: (T ++ backs Po ls (w B))) (some v :: (t ++ σ)) H' → Q v H') : SpM pre m post ret (a0 :: vs) H Q XE' := by
  obtain ⟨G, F, f, c⟩ := st
  obtain ⟨F1, F2, e1, c1, c2⟩ := c.unappend (by simp [hl])
  subst e1
  obtain ⟨Fo, Fr, e2, qo, go⟩ := O.get l c2
  have pm : (F1 ++ F2).Perm ((Fo ++ F1) ++ Fr) := by
    refine (List.Perm.append_left F1 e2).trans ?_
    rw [← List.append_assoc]
    exact List.Perm.append_right Fr List.perm_append_comm
  have f1 := f.perm pm
  refine ⟨xx, r, G, Fo ++ F1, hm, (f1.less (List.sublist_append_left _ _)).start, ?_, by rw [hpre]; simp [hl], fun v H2 st2 => kk v H2 ?_⟩
  · rw [hpre]
    exact ⟨a0, Fo, F1, rfl, rfl, qo, c1⟩
  · obtain ⟨G2, F3, f3, v', F4, F5, e3, e4, q, c3⟩ := st2
    cases e3
    subst e4
    rw [hpost] at c3
    obtain ⟨u, FB, FP, e5, e6, qB, c4⟩ := c3
    cases e5
    subst e6
    obtain ⟨f4, keep⟩ := f.step pm f3
    obtain ⟨F', e7, c5⟩ := go f3.gg f3.gh keep qB
    have c6 := c4.append c5
    have n5 : (F4 ++ (FB ++ FP) ++ Fr).Nodup := f4.nd
    have pm2 : (F4 ++ (FB ++ FP) ++ Fr).Perm (F4 ++ (FP ++ F')) := by
      rw [List.append_assoc]
      refine List.Perm.append_left F4 ?_
      have q1 : (FB ++ FP ++ Fr).Perm (FP ++ FB ++ Fr) := List.Perm.append_right Fr List.perm_append_comm
      refine q1.trans ?_
      rw [List.append_assoc]
      exact List.Perm.append_left FP e7.symm
    have n6 := (pm2.nodup_iff).mp n5
    obtain ⟨m1, m2, m3⟩ := List.nodup_append.mp n6
    obtain ⟨F6, ha, hb, c7⟩ := cs_backs l ls Po (w B) _ (hP.trans hl.symm) n1 (fun p hp => ⟨(hv p hp).1, (hv p hp).2, hls p hp⟩) n2 c6 m2
    exact ⟨G2, F4 ++ F6, (f4.perm pm2).sub (List.nodup_append.mpr ⟨m1, ha, fun x hx y hy => m3 x hx y (hb y hy)⟩) (fun x hx => by
      rcases List.mem_append.mp hx with z | z
      · exact List.mem_append_left _ z
      · exact List.mem_append_right _ (hb x z)), v, F4, F6, rfl, rfl, q, c7⟩
/-- o.m(e, ..) -/
theorem xe_meth {k : Nat} {ρo : Cl} {pl : Sem Bool} (M : CalM X.prog X.w X.K X.mg X.base k C x (SpM pre m post ret)) (cl : Cls X.K C) (hn : x ∉ ns) (hr : Room k X.A) (hm : m xx = some r) (ho : XE X o ρ ρ (aV a0)) (O0 : Own ρ a0 (aObj C ns As0) w0) (ha : XL X (e :: es) ρ ρ1 As ls) (O : Own ρ1 a0 A0 w)
    (hpre : pre xx = A0 :: As) (hpost : post xx r = some B :: Po) (hP : Po.length = As.length) (n1 : (ls.map (·.1)).Nodup) (n2 : (ls.map (·.2.1)).Nodup) (hls : ∀ p ∈ ls, (w B)[p.2.1]? = some none) (hA : ret xx r = A) (hb : backs Po ls (w B) = ρo)
    (hst : starEach (e :: es) X.env = (false, eval e X.env) :: starEach es X.env := by rfl) (hpl : (backTo pos (starEach es X.env)).any (·.1) = false := by rfl)
    (ht : eval (.Call (.Attribute o x apos) (e :: es) [] pos) X.env = (do
      let ov ← eval o X.env
      standAt apos.atName
      let (f, first) ← holding [ov] (getMethod ov x pl)
      callWith pos f first (backTo pos (starEach (e :: es) X.env)) (backToKw pos (keywordEach [] X.env))) := by rfl) :
    XE X (.Call (.Attribute o x apos) (e :: es) [] pos) ρ ρo A := fun E T t σ H l st Q kk => by
  subst hA hb
  obtain ⟨f, fd, ps, F, h1, h2⟩ := M.ex
  refine wE.of (pe_meth (E := fun _ _ _ => False) peS cl h1 F hr h2 .nil pass0 paS hst hpl ht) (ho E T t σ H l st _ fun u H1 st1 => ?_)
  obtain ⟨G, Fa, Fv, fr, cs, e0, _⟩ := ST.one st1
  subst e0
  obtain ⟨F1, F2, e1, ⟨p, dx, vs, F', e2, e3, h3, hl, c1⟩, go⟩ := O0.get l cs
  refine ⟨p, dx, _, e2, h3, lookup_no hn, ha E T t σ H1 l (ST.pop st1) _ fun vs H2 hl hv st2 => ?_⟩
  rw [List.append_nil]
  exact meth_core (XE' := fun _ _ _ => False) l hl st2 hv O hm hpre hpost hP n1 n2 hls kk
/-- o.m() -/
theorem xe_meth0 {k : Nat} {ρo : Cl} {pl : Sem Bool} (M : CalM X.prog X.w X.K X.mg X.base k C x (SpM pre m post ret)) (cl : Cls X.K C) (hn : x ∉ ns) (hr : Room k X.A) (hm : m xx = some r) (ho : XE X o ρ ρ (aV a0)) (O : Own ρ a0 (aObj C ns As0) w)
    (hpre : pre xx = [aObj C ns As0]) (hpost : post xx r = [some B]) (hA : ret xx r = A) (hb : w B = ρo)
    (ht : eval (.Call (.Attribute o x apos) [] [] pos) X.env = (do
      let ov ← eval o X.env
      standAt apos.atName
      let (f, first) ← holding [ov] (getMethod ov x pl)
      callWith pos f first (backTo pos (starEach [] X.env)) (backToKw pos (keywordEach [] X.env))) := by rfl) :
    XE X (.Call (.Attribute o x apos) [] [] pos) ρ ρo A := fun E T t σ H l st Q kk => by
  subst hA hb
  obtain ⟨f, fd, ps, F, h1, h2⟩ := M.ex
  refine wE.of (pe_meth0 (E := fun _ _ _ => False) peS cl h1 F hr h2 .nil pass0 ht) (ho E T t σ H l st _ fun u H1 st1 => ?_)
  obtain ⟨G, Fa, Fv, fr, cs, e0, _⟩ := ST.one st1
  subst e0
  obtain ⟨F1, F2, e1, ⟨p, dx, vs, F', e2, e3, h3, hl, c1⟩, go⟩ := O.get l cs
  refine ⟨p, dx, _, e2, h3, lookup_no hn, ?_⟩
  exact meth_core (XE' := fun _ _ _ => False) (As := []) (ls := []) (vs := []) l rfl (ST.pop st1) (fun _ h => by simp at h) O hm hpre hpost rfl .nil .nil (fun _ h => by simp at h) kk
theorem Frm.made {G H : Hp} {x dx : Addr} {o o' : HO} (e : Ex G H) (n : H x = none) (n' : H dx = none) (ne : dx ≠ x) : Frm ⟨G, H, []⟩ G (upd (upd H dx o') x o) [x] where
  gg := .refl _
  gh := (e.trans (.new n')).trans (.new (by rw [upd_ne ne.symm]; exact n))
  nd := by simp
  dis := fun b hb => by
    have e1 : b = x := by simpa using hb
    subst e1
    cases q : G b with
    | none => rfl
    | some u => rw [e b u q] at n; cases n
  live := fun b hb => by
    have e1 : b = x := by simpa using hb
    subst e1
    rw [upd_same]; simp
  keep := fun b u q _ => Ex.new (by rw [upd_ne ne.symm]; exact n) b u (Ex.new n' b u q)
  fp := fun b hb => by
    have e1 : b = x := by simpa using hb
    subst e1
    exact .inr n
  gn := fun b u q n' => by rw [show G b = none from n'] at q; cases q
theorem make_core {E : Ent} {T : Cl} {t σ : L2.St} {H : Hp} {vs : List V} {Q : VK} {XE' : XK} {z dx : Addr} (l : T.length = t.length) (hl : vs.length = As.length) (st : ST E (As.map some ++ (T ++ ρ1)) (vs.map some ++ (t ++ σ)) H) (hv : ∀ p ∈ ls, vs[p.1]? = some p.2.2 ∧ σ[p.2.1]? = some (some p.2.2))
    (nz : H z = none) (ndx : H dx = none) (ne : dx ≠ z) (hm : m xx = some r) (hpre : pre xx = aObj C [] [] :: As) (hpost : post xx r = some B :: Po) (hret : ret xx r = aD X.K .none) (hP : Po.length = As.length) (n1 : (ls.map (·.1)).Nodup) (n2 : (ls.map (·.2.1)).Nodup) (hls : ∀ p ∈ ls, ρ1[p.2.1]? = some none)
    (kk : ∀ v H', ST E (some B :: (T ++ backs Po ls ρ1)) (some v :: (t ++ σ)) H' → Q v H') : SpM pre m post ret (.ref z :: vs) (upd (upd H dx (.own z)) z (.ins C dx [])) (fun v H2 => v = .non ∧ Q (.ref z) H2) XE' := by
  obtain ⟨G, F, f, c⟩ := st
  have fm := Frm.made (o := .ins C dx []) (o' := .own z) f.gh nz ndx ne
  obtain ⟨f0, keep0⟩ := f.step (Fa := []) (Fr := F) (.refl _) fm
  have c0 := c.mono (.refl _) f0.gh keep0
  obtain ⟨F1, F2, e1, c1, c2⟩ := c0.unappend (by simp [hl])
  subst e1
  have f0 : Frm E G (upd (upd H dx (.own z)) z (.ins C dx [])) ((z :: F1) ++ F2) := f0
  refine ⟨xx, r, G, z :: F1, hm, (f0.less (List.sublist_append_left _ _)).start, ?_, by rw [hpre]; simp [hl], fun v H2 st2 => ?_⟩
  · rw [hpre]
    exact ⟨.ref z, [z], F1, rfl, rfl, ⟨z, dx, [], [], rfl, rfl, upd_same, rfl, rfl⟩, c1⟩
  · obtain ⟨G2, F3, f3, v', F4, F5, e3, e4, q, c3⟩ := st2
    cases e3
    subst e4
    rw [hret] at q
    obtain ⟨q, eq0⟩ := q
    cases q
    subst eq0
    refine ⟨rfl, kk _ _ ?_⟩
    rw [hpost] at c3
    obtain ⟨u, FB, FP, e5, e6, qB, c4⟩ := c3
    cases e5
    subst e6
    obtain ⟨f4, keep⟩ := f0.step (Fa := z :: F1) (Fr := F2) (.refl _) f3
    have c5 := c4.append (c2.mono f3.gg f3.gh keep)
    have n5 : (FB ++ (FP ++ F2)).Nodup := by rw [← List.append_assoc]; exact f4.nd
    obtain ⟨m1, m2, m3⟩ := List.nodup_append.mp n5
    obtain ⟨F6, ha, hb, c7⟩ := cs_backs l ls Po ρ1 _ (hP.trans hl.symm) n1 (fun p hp => ⟨(hv p hp).1, (hv p hp).2, hls p hp⟩) n2 c5 m2
    exact ⟨G2, FB ++ F6, f4.sub (List.nodup_append.mpr ⟨m1, ha, fun x hx y hy => m3 x hx y (hb y hy)⟩) (fun x hx => by
      show x ∈ (FB ++ FP) ++ F2
      rw [List.append_assoc]
      rcases List.mem_append.mp hx with z | z
      · exact List.mem_append_left _ z
      · exact List.mem_append_right _ (hb x z)), .ref z, FB, F6, rfl, rfl, qB, c7⟩
/-- X(e, ..) -/
theorem xe_make {k : Nat} {ρo : Cl} (M : CalC X.prog X.w X.K X.mg X.base k C x (SpM pre m post ret)) (hr : Room (k + 1) X.A) (hm : m xx = some r) (ha : XL X (e :: es) ρ ρ1 As ls)
    (hpre : pre xx = aObj C [] [] :: As) (hpost : post xx r = some B :: Po) (hret : ret xx r = aD X.K .none) (hP : Po.length = As.length) (n1 : (ls.map (·.1)).Nodup) (n2 : (ls.map (·.2.1)).Nodup) (hls : ∀ p ∈ ls, ρ1[p.2.1]? = some none) (hb : backs Po ls ρ1 = ρo)
    (hg : Gl X x := by rfl) (hdb : (x == ("__debug__" : Str)) = false := by decide) (he : starEach (e :: es) X.env = (false, eval e X.env) :: starEach es X.env := by rfl) (hpl : (backTo pos (starEach es X.env)).any (·.1) = false := by rfl) :
    XE X (.Call (.Name x p) (e :: es) [] pos) ρ ρo B := fun E T t σ H l st Q kk => by
  subst hb
  obtain ⟨f, fd, ps, F, h1, h2, h3⟩ := M.ex
  refine wE.of (pe_make (E := fun _ _ _ => False) h2 F hr hg h1 h3 .nil pass0 paS hdb he hpl) (ha E T t σ H l st _ fun vs H' hl hv st' z dx nz ndx ne => ?_)
  rw [List.append_nil]
  exact make_core (XE' := fun _ _ _ => False) l hl st' hv nz ndx ne hm hpre hpost hret hP n1 n2 hls kk
theorem xe_make0 {k : Nat} (M : CalC X.prog X.w X.K X.mg X.base k C x (SpM pre m post ret)) (hr : Room (k + 1) X.A) (hm : m xx = some r)
    (hpre : pre xx = [aObj C [] []]) (hpost : post xx r = [some B]) (hret : ret xx r = aD X.K .none)
    (hg : Gl X x := by rfl) (hdb : (x == ("__debug__" : Str)) = false := by decide) : XE X (.Call (.Name x p) [] [] pos) ρ ρ B := fun E T t σ H l st Q kk => by
  obtain ⟨f, fd, ps, F, h1, h2, h3⟩ := M.ex
  refine wE.of (pe_make0 (E := fun _ _ _ => False) h2 F hr hg h1 h3 .nil pass0 hdb) fun z dx nz ndx ne => ?_
  exact make_core (XE' := fun _ _ _ => False) (As := []) (ls := []) (vs := []) l rfl st (fun _ h => by simp at h) nz ndx ne hm hpre hpost hret rfl .nil .nil (fun _ h => by simp at h) kk
end
end Mr

set_option Elab.async false
set_option linter.all false
set_option maxRecDepth 100000
/-! weaker assertions; values that are named; walks over a place's list; items changed at a place -/
namespace Mr
open PySem PySem.Spec PyProof.Rows L2
def Imp (A B : OA) : Prop := ∀ {G H : Hp} {v : V} {F : List Addr}, A.P G H v F → B.P G H v F
theorem imp_rfl {A : OA} : Imp A A := fun h => h
theorem imp_unpin {A : OA} {v0 : V} : Imp (pin v0 A) A := fun h => h.2
theorem imp_pin {A B : OA} {v0 : V} (h : Imp A B) : Imp (pin v0 A) (pin v0 B) := fun q => ⟨q.1, h q.2⟩
inductive ImpL : List OA → List OA → Prop
  | nil : ImpL [] []
  | cons {A B : OA} {As Bs : List OA} : Imp A B → ImpL As Bs → ImpL (A :: As) (B :: Bs)
theorem ImpL.cs {G H : Hp} : ∀ {As Bs : List OA} {σ : List (Option V)} {F : List Addr}, ImpL As Bs → Cs G H (As.map some) σ F → Cs G H (Bs.map some) σ F
  | _, _, [], _, .nil, c => c
  | _, _, _ :: _, _, .nil, c => c
  | _, _, [], _, .cons _ _, c => c.elim
  | _, _, _ :: _, _, .cons h t, c => by
    obtain ⟨v, F1, F2, e1, e2, q, c⟩ := c
    exact ⟨v, F1, F2, e1, e2, h q, t.cs c⟩
theorem imp_obj {C : Addr} {ns : List Str} {As Bs : List OA} (h : ImpL As Bs) : Imp (aObj C ns As) (aObj C ns Bs) := fun q => by
  obtain ⟨p, dx, vs, F', e2, e3, h1, hl, c1⟩ := q
  exact ⟨p, dx, vs, F', e2, e3, h1, hl, h.cs c1⟩
theorem imp_lst {As Bs : List OA} (h : ImpL As Bs) : Imp (aL As) (aL Bs) := fun q => by
  obtain ⟨p, vs, F', e2, e3, h1, c1⟩ := q
  exact ⟨p, vs, F', e2, e3, h1, h.cs c1⟩
theorem Own.weak {ρ : Cl} {v0 : V} {A A' : OA} {w : OA → Cl} (O : Own ρ v0 A w) (h : Imp A A') : Own ρ v0 A' w := ⟨fun {G H T t σ F} l c => by
  obtain ⟨F1, F2, e1, q, go⟩ := O.get l c
  exact ⟨F1, F2, e1, h q, go⟩⟩
theorem Cs.weak {G H : Hp} : ∀ {ρ : Cl} {σ : L2.St} {F : List Addr} {i : Nat} {A B : OA}, Cs G H ρ σ F → ρ[i]? = some (some A) → Imp A B → Cs G H (ρ.set i (some B)) σ F
  | [], _, _, _, _, _, _, h, _ => by simp at h
  | none :: _, [], _, _, _, _, c, _, _ => c.elim
  | some _ :: _, [], _, _, _, _, c, _, _ => c.elim
  | none :: ρ, _ :: σ, F, 0, A, B, c, h, _ => by simp at h
  | some A' :: ρ, x :: σ, F, 0, A, B, c, h, w => by
    have e : A' = A := by simpa using h
    subst e
    obtain ⟨v, F1, F2, e1, e2, q, c⟩ := c
    exact ⟨v, F1, F2, e1, e2, w q, c⟩
  | none :: ρ, x :: σ, F, i + 1, A, B, c, h, w => Cs.weak (ρ := ρ) (σ := σ) (i := i) c (by simpa using h) w
  | some A' :: ρ, x :: σ, F, i + 1, A, B, c, h, w => by
    obtain ⟨v, F1, F2, e1, e2, q, c⟩ := c
    exact ⟨v, F1, F2, e1, e2, q, Cs.weak (i := i) c (by simpa using h) w⟩
section
variable {X : Cx} {ω : Type} {sts : List Stmt} {m : Option ω} {Φ : ω → Ent → Ends → Prop} {ρ ρ1 ρ2 : Cl} {A B : OA} {a b e o : Expr} {pos p tpos : Pos}
theorem xg_none : XG X sts ρ (none : Option ω) Φ := fun o ho => nomatch ho
theorem xg_weak (i : Nat) (h : ρ[i]? = some (some A)) (w : Imp A B) (k : XG X sts (ρ.set i (some B)) m Φ) : XG X sts ρ m Φ := fun r hr E σ H D st q => by
  obtain ⟨G, F, f, c⟩ := st
  exact k r hr E σ H D ⟨G, F, f, c.weak h w⟩ q
theorem xe_weak (he : XE X e ρ ρ1 A) (i : Nat) {B B' : OA} (h : ρ1[i]? = some (some B)) (w : Imp B B') : XE X e ρ (ρ1.set i (some B')) A := fun E T t σ H l st Q k => he E T t σ H l st Q fun v H' st1 => k v H' (by
  obtain ⟨G, F, f, c⟩ := st1
  have q := Cs.weak (i := (some A :: T).length + i) (A := B) (B := B') c (by
    show ((some A :: T) ++ ρ1)[_]? = _
    rw [append_get_right]; exact h) w
  have e : ((some A :: T) ++ ρ1).set ((some A :: T).length + i) (some B') = (some A :: T) ++ ρ1.set i (some B') := append_set_right _ _ _ _
  have q : Cs G H' (((some A :: T) ++ ρ1).set ((some A :: T).length + i) (some B')) (some v :: (t ++ σ)) F := q
  rw [e] at q
  exact ⟨G, F, f, q⟩)
/-- an attribute's value is named -/
theorem xg_pinf (i k : Nat) {a0 : V} {C : Addr} {ns : List Str} {As : List OA} (h : ρ[i]? = some (some (pin a0 (aObj C ns As)))) (hk : As[k]? = some A) (kk : ∀ v, XG X sts (ρ.set i (some (pin a0 (aObj C ns (As.set k (pin v A)))))) m Φ) : XG X sts ρ m Φ := fun r hr E σ H D st q => by
  obtain ⟨G, F, f, c⟩ := st
  obtain ⟨F1, F2, e1, ⟨p, dx, vs, F', e2, e3, h1, hl, c1⟩, go⟩ := (Own.slot i h).get (T := []) (t := []) rfl c
  subst e2 e3
  obtain ⟨v, Fa, Fb, ev, e4, hq, c2⟩ := c1.getP hk
  obtain ⟨F3, a3, c4⟩ := c2.join (A := pin v A) (v := v) (F1 := Fa) (by rw [List.length_map]; exact lt_of_get hk) ⟨rfl, hq⟩
  have e6 : (vs.map some).set k (some v) = vs.map some := set_get (by rw [List.getElem?_map, ev]; rfl)
  rw [e6] at c4
  have c4 : Cs G H ((As.set k (pin v A)).map some) (vs.map some) F3 := by simpa [List.map_set] using c4
  obtain ⟨F5, a5, c5⟩ := go (.refl _) f.gh (fun b _ o q => q) (B := aObj C ns (As.set k (pin v A))) (F1' := p :: F3) ⟨p, dx, vs, F3, rfl, rfl, h1, hl, c4⟩
  refine kk v r hr E σ H D ⟨G, F5, f.perm ?_, c5⟩ q
  refine e1.trans (List.Perm.trans ?_ a5.symm)
  exact List.Perm.append_right F2 (List.Perm.cons p (e4.trans a3.symm))
theorem xi_ownW {v0 : V} {α : Type} {xs : List α} {cv : α → PyData} {w : OA → Cl} {tg iter : Expr} (h : XE X iter ρ ρ1 (aV v0)) (hi : Own ρ1 v0 (aLD X.K (xs.map cv)) w) : XI X tg iter ρ ρ1 (fun L => ∃ w, Own L v0 (aLD X.K (xs.map cv)) w) xs (fun x => aD X.K (cv x)) := fun E T t σ H l st R k => by
  have rd : ∀ {E : Ent} {T : Cl} {t : L2.St} {L : Cl} {C : L2.St} {H : Hp}, T.length = t.length → (∃ w, Own L v0 (aLD X.K (xs.map cv)) w) → ST E (T ++ L) (t ++ C) H → ∃ p vs G F, v0 = .ref p ∧ SqL X.K H p vs ∧ Frm E G H F ∧ Cs G H (T ++ L) (t ++ C) F ∧ DqAll X.K G vs (xs.map cv) := fun {E T t L C H} l hL st => by
    obtain ⟨G, F, f, c⟩ := st
    obtain ⟨w, hL⟩ := hL
    obtain ⟨p, vs, e1, e2, e3⟩ := rmW (K := X.K) hL l c f.gh (v := v0) (Fv := []) ⟨rfl, rfl⟩
    exact ⟨p, vs, G, F, e1, .inl (.inl e2), f, c, e3⟩
  refine wI.of (pi_list peS) (h E T t σ H l st _ fun v H1 st1 => ?_)
  obtain ⟨G, F, Fv, f, cs, e0, _⟩ := ST.one st1
  have st2 : ST E (T ++ ρ1) (t ++ σ) H1 := ⟨G, F, f, cs⟩
  obtain ⟨p, vs, G', F', e1, h1, _, _, _⟩ := rd l ⟨w, hi⟩ st2
  subst e0 e1
  refine ⟨p, rfl, ⟨_, h1⟩, k _ E _ (.refl _) st2 ⟨fun n hn T t L C H l ok st => ?_, fun T t L C H l ok st => ?_, fun n x v H H' hx T t L C l ok st y => ?_⟩⟩
  · obtain ⟨p', vs', G2, F2, e1, h1, _, _, q⟩ := rd l ok st
    cases e1
    have hl : n < vs'.length := by rw [q.len, List.length_map]; exact hn
    exact ⟨vs', vs'[n], h1, List.getElem?_eq_getElem hl⟩
  · obtain ⟨p', vs', G2, F2, e1, h1, _, _, q⟩ := rd l ok st
    cases e1
    exact ⟨vs', h1, by rw [q.len, List.length_map]; exact Nat.le_refl _⟩
  · obtain ⟨p', vs', G2, F2, e1, h1, f2, c2, q⟩ := rd l ok st
    cases e1
    obtain ⟨e1, e2⟩ := y
    have e3 := e2 vs' h1
    obtain ⟨w, e4, e5⟩ := q.get (i := n) (d := cv x) (by rw [List.getElem?_map, hx]; rfl)
    rw [e3] at e4
    cases e4
    subst e1
    exact ST.put f2 c2 e5
/-- xs[n] op= e at a place: a list of ints -/
theorem xg_augW {op : Operator} {g : Int → Int → Int} {n x k : Int} {xs : List Int} {v0 : V} {w w0 : OA → Cl} {rest : List Stmt} {j : Nat} (hop : PIp X op (ipI g)) (ho : XE X o ρ ρ (aV v0)) (hb : XE X b ρ ρ (aD X.K (.int n))) (h1 : Own ρ v0 (aLD X.K (xs.map PyData.int)) w0) (hn : ixN xs.length n = some j) (hx : xs[j]? = some x)
    (he : XE X e ρ ρ1 (aD X.K (.int k))) (h2 : Own ρ1 v0 (aLD X.K (xs.map PyData.int)) w) (h : XG X rest (w (aLD X.K ((xs.set j (g x k)).map PyData.int))) m Φ)
    (ha : ∀ ov iv new, augStore b ov iv new = (do holding [new, ov, iv] (setItem ov iv new); release [new, ov, iv] []; pure .next) := by intros; rfl) : XG X (.AugAssign (.Subscript o b tpos) op e pos :: rest) ρ m Φ := fun r hr E σ H D st q =>
  wS.of (pss_cons (ps_augS peS peS get_list peS hop set_list ha) pssS) (ho E [] [] σ H rfl st _ fun v H1 st1 => hb E [_] [_] σ H1 rfl st1 _ fun w1 H2 st2 => by
    obtain ⟨G, F, f, c, q1⟩ := ST.top st2
    cases q1
    have st3 : ST E ρ σ H2 := ST.pop (A := aV v0) (x := some v) ⟨G, F, f, c⟩
    have ev : v = v0 := by
      obtain ⟨u, F1, F2, e1, e2, ⟨e3, e4⟩, c⟩ := c
      cases e1
      exact e3
    subst ev
    have st30 := st3
    obtain ⟨G, F, f, c⟩ := st30
    obtain ⟨p, vs, e8, h3, hd⟩ := rmW (K := X.K) h1 (T := []) (t := []) rfl c f.gh (v := v) (Fv := []) ⟨rfl, rfl⟩
    subst e8
    obtain ⟨z, hz, hq⟩ := hd.get (i := j) (d := .int x) (by rw [List.getElem?_map, hx]; rfl)
    cases hq
    have hl : vs.length = xs.length := by rw [hd.len, List.length_map]
    refine ⟨p, vs, n, .int x, rfl, rfl, .inl (.inl h3), by unfold atI; rw [hl, hn]; exact hz, he E [] [] σ H2 rfl st3 _ fun y H3 st4 => ?_⟩
    obtain ⟨G, F, f, c, q2⟩ := ST.top st4
    cases q2
    refine ⟨x, k, rfl, rfl, ?_⟩
    obtain ⟨p', vs', e10, h4, hl', go⟩ := ST.modW (T := []) (t := []) rfl (ST.put (K := X.K) (v := .int (g x k)) f c (.int _)) h2
    cases e10
    have hj : j < xs.length := lt_of_get hx
    have hl'' : vs'.length = xs.length := by simpa using hl'
    have st5 := go (((xs.map PyData.int).map (aD X.K)).set j (aD X.K (.int (g x k)))) (vs'.set j (.int (g x k))) fun G H F1 F2 c q => cs_set (by simpa using hj) c q
    have e : ((xs.map PyData.int).map (aD X.K)).set j (aD X.K (.int (g x k))) = ((xs.set j (g x k)).map PyData.int).map (aD X.K) := by simp [List.map_set]
    rw [e] at st5
    exact ⟨p, vs', n, j, rfl, rfl, h4, by rw [hl'']; exact hn, h r hr E σ _ D st5 q⟩)
end
end Mr

set_option Elab.async false
set_option linter.all false
set_option maxRecDepth 100000
/-! owned dicts whose keys are ints and whose values are data -/
namespace Mr
open PySem PySem.Spec PyProof.Rows L2
section
variable {α : Type}
def dGet (kvs : List (Int × α)) (k : Int) : Option α := (kvs.find? fun kv => decide (kv.1 = k)).map (·.2)
def dHas (kvs : List (Int × α)) (k : Int) : Bool := (dGet kvs k).isSome
def dPut (kvs : List (Int × α)) (k : Int) (v : α) : List (Int × α) :=
  if (kvs.any fun kv => decide (kv.1 = k)) = true then kvs.map (fun kv => if kv.1 = k then (kv.1, v) else kv) else kvs ++ [(k, v)]
def dDel (kvs : List (Int × α)) (k : Int) : List (Int × α) := kvs.filter fun kv => decide (kv.1 ≠ k)
def dKeys (kvs : List (Int × α)) : List Int := kvs.map (·.1)
def insI (x : Int) : List Int → List Int
  | [] => [x]
  | y :: ys => if x ≤ y then x :: y :: ys else y :: insI x ys
def srtI : List Int → List Int
  | [] => []
  | x :: xs => insI x (srtI xs)
theorem insI_perm (x : Int) : ∀ ys : List Int, (insI x ys).Perm (x :: ys)
  | [] => .refl _
  | y :: ys => by
    unfold insI
    by_cases h : x ≤ y
    · rw [if_pos h]
    · rw [if_neg h]
      exact ((insI_perm x ys).cons y).trans (List.Perm.swap x y ys)
theorem srtI_perm : ∀ xs : List Int, (srtI xs).Perm xs
  | [] => .refl _
  | x :: xs => (insI_perm x (srtI xs)).trans ((srtI_perm xs).cons x)
theorem insI_sorted (x : Int) : ∀ ys : List Int, ys.Pairwise (· ≤ ·) → (insI x ys).Pairwise (· ≤ ·)
  | [], _ => by simp [insI]
  | y :: ys, h => by
    obtain ⟨h1, h2⟩ := List.pairwise_cons.mp h
    unfold insI
    by_cases q : x ≤ y
    · rw [if_pos q]
      refine List.pairwise_cons.mpr ⟨fun z hz => ?_, h⟩
      rcases List.mem_cons.mp hz with e | e
      · exact e ▸ q
      · exact Int.le_trans q (h1 z e)
    · rw [if_neg q]
      refine List.pairwise_cons.mpr ⟨fun z hz => ?_, insI_sorted x ys h2⟩
      rcases List.mem_cons.mp ((insI_perm x ys).mem_iff.mp hz) with e | e
      · omega
      · exact h1 z e
theorem srtI_sorted : ∀ xs : List Int, (srtI xs).Pairwise (· ≤ ·)
  | [] => .nil
  | x :: xs => insI_sorted x _ (srtI_sorted xs)
theorem sorted_unique : ∀ {xs ys : List Int}, xs.Perm ys → xs.Pairwise (· ≤ ·) → ys.Pairwise (· ≤ ·) → xs = ys
  | [], ys, p, _, _ => (List.Perm.nil_eq p)
  | x :: xs, [], p, _, _ => (by have := p.length_eq; simp at this)
  | x :: xs, y :: ys, p, hx, hy => by
    obtain ⟨h1, h2⟩ := List.pairwise_cons.mp hx
    obtain ⟨h3, h4⟩ := List.pairwise_cons.mp hy
    have e : x = y := by
      have a : x ∈ y :: ys := p.mem_iff.mp (by simp)
      have b : y ∈ x :: xs := p.mem_iff.mpr (by simp)
      have a1 : y ≤ x := by
        rcases List.mem_cons.mp a with e | e
        · omega
        · exact h3 x e
      have b1 : x ≤ y := by
        rcases List.mem_cons.mp b with e | e
        · omega
        · exact h1 y e
      omega
    subst e
    rw [sorted_unique (List.Perm.cons_inv p) h2 h4]
end
inductive KvD (K : PySem.W.Frag) (G : Hp) : List (Key × V) → List (Int × PyData) → Prop
  | nil : KvD K G [] []
  | cons {k : Int} {v : V} {d : PyData} {ws : List (Key × V)} {kvs : List (Int × PyData)} : Dq K G v d → KvD K G ws kvs → KvD K G ((Sum.inl k, v) :: ws) ((k, d) :: kvs)
section
variable {K : PySem.W.Frag} {G G' : Hp}
theorem KvD.mono (e : Ex G G') : ∀ {ws : List (Key × V)} {kvs : List (Int × PyData)}, KvD K G ws kvs → KvD K G' ws kvs
  | _, _, .nil => .nil
  | _, _, .cons h t => .cons (Dq.mono e _ _ h) (t.mono e)
theorem KvD.len : ∀ {ws : List (Key × V)} {kvs : List (Int × PyData)}, KvD K G ws kvs → ws.length = kvs.length
  | _, _, .nil => rfl
  | _, _, .cons h t => congrArg (· + 1) t.len
theorem KvD.keys : ∀ {ws : List (Key × V)} {kvs : List (Int × PyData)}, KvD K G ws kvs → ws.map (·.1) = (dKeys kvs).map Sum.inl
  | _, _, .nil => rfl
  | _, _, .cons h t => by
    show _ :: _ = _ :: _
    rw [t.keys]
    rfl
theorem KvD.get : ∀ {ws : List (Key × V)} {kvs : List (Int × PyData)} {k : Int} {d : PyData}, KvD K G ws kvs → dGet kvs k = some d → ∃ v, valV ws (Sum.inl k) = some v ∧ Dq K G v d
  | _, _, k, d, .nil, h => by simp [dGet] at h
  | _, _, k, d, .cons (k := k') (v := v) (d := d') (kvs := kvs') h1 t, h => by
    by_cases e : k' = k
    · subst e
      have : some d' = some d := by simpa [dGet, List.find?_cons] using h
      cases this
      exact ⟨v, valV_pos rfl, h1⟩
    · have h : dGet kvs' k = some d := by simpa [dGet, List.find?_cons, e] using h
      obtain ⟨w, e1, e2⟩ := t.get h
      exact ⟨w, by rw [valV_neg (fun q => e (Sum.inl.inj q))]; exact e1, e2⟩
theorem KvD.has : ∀ {ws : List (Key × V)} {kvs : List (Int × PyData)} {k : Int}, KvD K G ws kvs → (valV ws (Sum.inl k)).isSome = dHas kvs k
  | _, _, k, .nil => rfl
  | _, _, k, .cons (k := k') (v := v) h1 t => by
    by_cases e : k' = k
    · subst e
      rw [valV_pos rfl]
      simp [dHas, dGet, List.find?_cons]
    · rw [valV_neg (fun q => e (Sum.inl.inj q)), t.has]
      simp [dHas, dGet, List.find?_cons, e]
theorem KvD.any : ∀ {ws : List (Key × V)} {kvs : List (Int × PyData)} {k : Int}, KvD K G ws kvs → (ws.any fun kv => decide (kv.1 = Sum.inl k)) = (kvs.any fun kv => decide (kv.1 = k))
  | _, _, k, .nil => rfl
  | _, _, k, .cons (k := k') h1 t => by
    rw [List.any_cons, List.any_cons, t.any]
    congr 1
    exact decide_eq_decide.mpr ⟨fun q => Sum.inl.inj q, fun q => congrArg Sum.inl q⟩
theorem KvD.repl {v : V} {d : PyData} (hv : Dq K G v d) : ∀ {ws : List (Key × V)} {kvs : List (Int × PyData)} {k : Int}, KvD K G ws kvs → KvD K G (ws.map fun kv => if kv.1 = Sum.inl k then (kv.1, v) else kv) (kvs.map fun kv => if kv.1 = k then (kv.1, d) else kv)
  | _, _, k, .nil => .nil
  | _, _, k, .cons (k := k') h1 t => by
    rw [List.map_cons, List.map_cons]
    by_cases e : k' = k
    · subst e
      rw [if_pos rfl, if_pos rfl]
      exact .cons hv (t.repl hv)
    · rw [if_neg (fun q => e (Sum.inl.inj q)), if_neg e]
      exact .cons h1 (t.repl hv)
theorem KvD.snoc {v : V} {d : PyData} {k : Int} (hv : Dq K G v d) : ∀ {ws : List (Key × V)} {kvs : List (Int × PyData)}, KvD K G ws kvs → KvD K G (ws ++ [(Sum.inl k, v)]) (kvs ++ [(k, d)])
  | _, _, .nil => .cons hv .nil
  | _, _, .cons h1 t => .cons h1 (t.snoc hv)
theorem KvD.put {v : V} {d : PyData} {k : Int} {ws : List (Key × V)} {kvs : List (Int × PyData)} (h : KvD K G ws kvs) (hv : Dq K G v d) : KvD K G (putK ws (Sum.inl k) v) (dPut kvs k d) := by
  unfold putK dPut
  rw [h.any]
  split
  · exact h.repl hv
  · exact h.snoc hv
theorem KvD.drop : ∀ {ws : List (Key × V)} {kvs : List (Int × PyData)} {k : Int}, KvD K G ws kvs → KvD K G (dropK ws (Sum.inl k)) (dDel kvs k)
  | _, _, k, .nil => .nil
  | _, _, k, .cons (k := k') (v := v) (ws := ws) (kvs := kvs) h1 t => by
    have ih := t.drop (k := k)
    unfold dropK dDel at ih ⊢
    rw [List.filter_cons, List.filter_cons]
    by_cases e : k' = k
    · subst e
      rw [if_neg (by simp), if_neg (by simp)]
      exact ih
    · rw [if_pos (by simp [e]), if_pos (by simp [e])]
      exact .cons h1 ih
end
def aDK (K : PySem.W.Frag) (kvs : List (Int × PyData)) : OA := ⟨fun G H v F => ∃ p ws, v = .ref p ∧ F = [p] ∧ H p = some (.dK ws) ∧ KvD K G ws kvs, fun h e _ k => by
  obtain ⟨p, ws, e1, e2, h1, q⟩ := h
  subst e2
  exact ⟨p, ws, e1, rfl, k p (by simp) _ h1, q.mono e⟩⟩
abbrev dD {α : Type} [Cd α] (kvs : List (Int × α)) : List (Int × PyData) := kvs.map fun kv => (kv.1, Cd.d kv.2)
section
variable {α : Type} [Cd α]
theorem dGet_d {kvs : List (Int × α)} {k : Int} {x : α} (h : dGet kvs k = some x) : dGet (dD kvs) k = some (Cd.d x) := by
  induction kvs with
  | nil => simp [dGet] at h
  | cons kv kvs ih =>
    obtain ⟨k', v⟩ := kv
    show dGet ((k', Cd.d v) :: dD kvs) k = _
    by_cases e : k' = k
    · subst e
      have : some v = some x := by simpa [dGet, List.find?_cons] using h
      cases this
      simp [dGet, List.find?_cons]
    · have h : dGet kvs k = some x := by simpa [dGet, List.find?_cons, e] using h
      simpa [dGet, List.find?_cons, e] using ih h
theorem dHas_d (kvs : List (Int × α)) (k : Int) : dHas (dD kvs) k = dHas kvs k := by
  induction kvs with
  | nil => rfl
  | cons kv kvs ih =>
    obtain ⟨k', v⟩ := kv
    show dHas ((k', Cd.d v) :: dD kvs) k = _
    by_cases e : k' = k
    · simp [dHas, dGet, List.find?_cons, e]
    · simpa [dHas, dGet, List.find?_cons, e] using ih
theorem dPut_d (kvs : List (Int × α)) (k : Int) (x : α) : dPut (dD kvs) k (Cd.d x) = dD (dPut kvs k x) := by
  have e : ((dD kvs).any fun kv => decide (kv.1 = k)) = (kvs.any fun kv => decide (kv.1 = k)) := by
    unfold dD
    rw [List.any_map]
    rfl
  unfold dPut
  rw [e]
  split
  · unfold dD
    rw [List.map_map, List.map_map]
    refine List.map_congr_left fun kv _ => ?_
    show (if kv.1 = k then _ else _) = _
    by_cases q : kv.1 = k
    · simp [q]
    · simp [q]
  · simp [dD]
theorem dDel_d (kvs : List (Int × α)) (k : Int) : dDel (dD kvs) k = dD (dDel kvs k) := by
  unfold dDel dD
  rw [List.filter_map]
  rfl
theorem dKeys_d (kvs : List (Int × α)) : dKeys (dD kvs) = dKeys kvs := by
  unfold dKeys dD
  rw [List.map_map]
  rfl
end
theorem ST.modD {E : Ent} {K : PySem.W.Frag} {T ρ : Cl} {t σ : L2.St} {G H : Hp} {F : List Addr} {v0 : V} {kvs : List (Int × PyData)} {w : OA → Cl} (l : T.length = t.length) (f : Frm E G H F) (c : Cs G H (T ++ ρ) (t ++ σ) F) (O : Own ρ v0 (aDK K kvs) w) :
    ∃ p ws, v0 = .ref p ∧ H p = some (.dK ws) ∧ KvD K G ws kvs ∧ ∀ kvs' ws', KvD K G ws' kvs' → ST E (T ++ w (aDK K kvs')) (t ++ σ) (upd H p (.dK ws')) := by
  obtain ⟨F1, F2, e1, ⟨p, ws, e2, e3, h1, q⟩, go⟩ := O.get l c
  subst e2 e3
  refine ⟨p, ws, rfl, h1, q, fun kvs' ws' q' => ?_⟩
  have f1 := f.perm e1
  have f2 : Frm ⟨G, H, [p]⟩ G H [p] := (f1.less (List.sublist_append_left _ _)).start
  have f3 := Frm.write (o := .dK ws') f2
  obtain ⟨f5, st5⟩ := f.step e1 f3
  obtain ⟨F6, e8, c4⟩ := go (.refl _) f5.gh st5 (B := aDK K kvs') (F1' := [p]) ⟨p, ws', rfl, rfl, upd_same, q'⟩
  exact ⟨G, F6, f5.perm e8.symm, c4⟩
theorem ST.seeD {K : PySem.W.Frag} {T ρ : Cl} {t σ : L2.St} {G H : Hp} {F : List Addr} {v0 : V} {kvs : List (Int × PyData)} {w : OA → Cl} (l : T.length = t.length) (c : Cs G H (T ++ ρ) (t ++ σ) F) (O : Own ρ v0 (aDK K kvs) w) :
    ∃ p ws, v0 = .ref p ∧ H p = some (.dK ws) ∧ KvD K G ws kvs := by
  obtain ⟨F1, F2, e1, ⟨p, ws, e2, e3, h1, q⟩, go⟩ := O.get l c
  exact ⟨p, ws, e2, h1, q⟩
section
variable {X : Cx} {ρ ρ1 ρ2 : Cl} {a b e o : Expr} {pos pos' tpos p apos cpos : Pos} {v0 : V} {w w0 w1 : OA → Cl} {α : Type} [Cd α] {kvs kvs0 kvs1 : List (Int × α)} {k : Int} {x : α} {ω : Type} {rest : List Stmt} {m : Option ω} {Φ : ω → Ent → Ends → Prop}
/-- {} -/
theorem xe_dnew : XE X (.Dict [] [] pos) ρ ρ (aDK X.K (dD ([] : List (Int × α)))) := fun E T t σ H l st Q kk =>
  wE.of pe_dnewK fun p hp => by
    obtain ⟨G, F, f, c⟩ := st
    obtain ⟨f1, keep⟩ := f.step (Fa := []) (Fr := F) (by simp) (Frm.alloc (o := .dK []) f.gh hp)
    exact kk _ _ ⟨G, _, f1, .ref p, [p], F, rfl, rfl, ⟨p, [], rfl, rfl, upd_same, .nil⟩, c.mono (.refl _) f1.gh keep⟩
theorem hu1 (h : X.A.units + 64 < cLine) : X.A.units + 1 < cLine := Nat.lt_of_le_of_lt (Nat.add_le_add_left (by decide : 1 ≤ 64) _) h
/-- the value of a name on the top -/
theorem ST.topV {E : Ent} {L : Cl} {C : L2.St} {H : Hp} {v : V} (st : ST E (some (aV v0) :: L) (some v :: C) H) : v = v0 := by
  obtain ⟨G, F, Fv, f, cs, e0, _⟩ := ST.one st
  exact e0
/-- d[k] -/
theorem xe_dget (hu : X.A.units + 64 < cLine) (hx : dGet kvs k = some x) (ho : XE X o ρ ρ (aV v0)) (hb : XE X b ρ ρ1 (aD X.K (.int k))) (O : Own ρ1 v0 (aDK X.K (dD kvs)) w) (hs : NoSl b := by exact fun _ _ => rfl) : XE X (.Subscript o b pos) ρ ρ1 (aD X.K (Cd.d x)) := fun E T t σ H l st Q kk =>
  wE.of (pe_dget (hu1 hu) peS peS hs) (ho E T t σ H l st _ fun u H1 st1 => by
    have e0 := ST.topV st1
    subst e0
    refine hb E (_ :: T) (_ :: t) σ H1 (by simp [l]) st1 _ fun y H2 st2 => ?_
    obtain ⟨G, F, f, c, q⟩ := ST.top (ST.drop2 st2)
    cases q
    obtain ⟨p, ws, e1, h1, q⟩ := ST.seeD l c O
    obtain ⟨v, e2, hv⟩ := q.get (dGet_d hx)
    refine ⟨p, v, e1, ?_, kk _ _ (ST.put f c hv)⟩
    rw [← e2]
    exact DGet.k (k := Sum.inl k) h1)
/-- k in d -/
theorem xk_din (hu : X.A.units + 64 < cLine) (ha : XE X a ρ ρ1 (aD X.K (.int k))) (ho : XE X o ρ1 ρ2 (aV v0)) (O : Own ρ2 v0 (aDK X.K (dD kvs)) w) (hm : behindInMarks .In o = false := by rfl) : XKm X (.Compare a [.In] [o] pos) ρ ρ2 (dHas kvs k) :=
  ⟨_, pe_cmp (pc_din (hu1 hu) peS peS) hm, pt_cmp (pc_din (hu1 hu) peS peS) hm, fun E T t σ H l st Q kk => ha E T t σ H l st _ fun y H1 st1 => ho E (_ :: T) (_ :: t) σ H1 (by simp [l]) st1 _ fun u H2 st2 => by
    have e0 := ST.topV st2
    subst e0
    obtain ⟨G, F, f, c, q⟩ := ST.top (ST.pop st2)
    cases q
    obtain ⟨p, ws, e1, h1, q⟩ := ST.seeD l c O
    refine ⟨p, _, e1, DGet.k (k := Sum.inl k) h1, ?_⟩
    rw [q.has, dHas_d]
    exact kk _ _ (ST.put f c (.bl _))⟩
theorem xk_dnin (hu : X.A.units + 64 < cLine) (ha : XE X a ρ ρ1 (aD X.K (.int k))) (ho : XE X o ρ1 ρ2 (aV v0)) (O : Own ρ2 v0 (aDK X.K (dD kvs)) w) (hm : behindInMarks .NotIn o = false := by rfl) : XKm X (.Compare a [.NotIn] [o] pos) ρ ρ2 (!dHas kvs k) :=
  ⟨_, pe_cmp (pc_dnotin (hu1 hu) peS peS) hm, pt_cmp (pc_dnotin (hu1 hu) peS peS) hm, fun E T t σ H l st Q kk => ha E T t σ H l st _ fun y H1 st1 => ho E (_ :: T) (_ :: t) σ H1 (by simp [l]) st1 _ fun u H2 st2 => by
    have e0 := ST.topV st2
    subst e0
    obtain ⟨G, F, f, c, q⟩ := ST.top (ST.pop st2)
    cases q
    obtain ⟨p, ws, e1, h1, q⟩ := ST.seeD l c O
    refine ⟨p, _, e1, DGet.k (k := Sum.inl k) h1, ?_⟩
    rw [q.has, dHas_d]
    exact kk _ _ (ST.put f c (.bl _))⟩
/-- d[k] = e -/
theorem xg_dput (hu : X.A.units + 64 < cLine) (hz : kvs.length < 1000000) (he : XE X e ρ ρ1 (aD X.K (Cd.d x))) (ho : XE X o ρ1 ρ1 (aV v0)) (hb : XE X b ρ1 ρ2 (aD X.K (.int k))) (O : Own ρ2 v0 (aDK X.K (dD kvs)) w) (h : XG X rest (w (aDK X.K (dD (dPut kvs k x)))) m Φ)
    (hs : swapsWith e (some (.Subscript o b pos')) pos.line X.env = pure false := by rfl) : XG X (.Assign [.Subscript o b pos'] e pos :: rest) ρ m Φ := fun r hr E σ H D st q =>
  wS.of (pss_cons (ps_dput (hu1 hu) peS peS peS hs) pssS) (he E [] [] σ H rfl st _ fun y H1 st1 => ho E [_] [_] σ H1 rfl st1 _ fun u H2 st2 => by
    have e0 := ST.topV st2
    subst e0
    refine hb E [_, _] [_, _] σ H2 rfl st2 _ fun i H3 st3 => ?_
    have st4 : ST E (some (aD X.K (.int k)) :: some (aD X.K (Cd.d x)) :: ρ2) (some i :: some y :: σ) H3 := ST.drop2 st3
    obtain ⟨G, F, f, c, q1, q2⟩ := ST.top2 st4
    cases q2
    obtain ⟨p, ws, e1, h1, q3, go⟩ := ST.modD (T := []) (t := []) rfl f c O
    refine ⟨p, _, e1, DPut.k (k := Sum.inl k) h1 (by rw [q3.len, List.length_map]; exact sz_lt hz), ?_⟩
    refine h r hr E σ _ D ?_ q
    have q5 := go _ _ (q3.put (k := k) q1)
    rw [dPut_d] at q5
    exact q5)
/-- del d[k] -/
theorem xg_ddel (hx : dHas kvs k = true) (ho : XE X o ρ ρ (aV v0)) (hb : XE X b ρ ρ1 (aD X.K (.int k))) (O : Own ρ1 v0 (aDK X.K (dD kvs)) w) (h : XG X rest (w (aDK X.K (dD (dDel kvs k)))) m Φ) : XG X (.Delete [.Subscript o b tpos] pos :: rest) ρ m Φ := fun r hr E σ H D st q =>
  wS.of (pss_cons (ps_ddel peS peS) pssS) (ho E [] [] σ H rfl st _ fun u H1 st1 => by
    have e0 := ST.topV st1
    subst e0
    refine hb E [_] [_] σ H1 rfl st1 _ fun i H2 st2 => ?_
    obtain ⟨G, F, f, c, q1⟩ := ST.top (ST.drop2 st2)
    cases q1
    obtain ⟨p, ws, e1, h1, q3, go⟩ := ST.modD (T := []) (t := []) rfl f c O
    refine ⟨p, ws, Sum.inl k, e1, h1, rfl, by rw [q3.has, dHas_d]; exact hx, ?_⟩
    refine h r hr E σ _ D ?_ q
    have q5 := go _ _ (q3.drop (k := k))
    rw [dDel_d] at q5
    exact q5)
/-- if d: -/
theorem xt_dict (ho : XE X o ρ ρ1 (aV v0)) (O : Own ρ1 v0 (aDK X.K (dD kvs)) w) (he : ∀ whole, isTrue o X.env whole = (do let v ← whole; standAt o.pos; holding [v] (truthy v)) := by intro _; rfl) : XT X o ρ ρ1 (!kvs.isEmpty) := fun E T t σ H l st Q kk =>
  wT.of (pt_truth peS he) (ho E T t σ H l st _ fun u H1 st1 => by
    have e0 := ST.topV st1
    subst e0
    obtain ⟨G, F, f, c⟩ := ST.pop st1
    obtain ⟨p, ws, e1, h1, q⟩ := ST.seeD l c O
    subst e1
    refine ⟨!kvs.isEmpty, .inr (.inr ⟨ws, h1, ?_⟩), kk H1 ⟨G, F, f, c⟩⟩
    have := q.len
    rw [List.length_map] at this
    cases ws <;> cases kvs <;> simp_all)
/-- len(d) -/
theorem xe_dlen (ho : XE X o ρ ρ1 (aV v0)) (O : Own ρ1 v0 (aDK X.K (dD kvs)) w) (hm : X.mg "len" = none) (hg : Gl X "len" := by rfl) (hs : starEach [o] X.env = [(false, eval o X.env)] := by rfl) (hpl : (backTo pos (starEach [] X.env)).any (·.1) = false := by rfl) : XE X (.Call (.Name "len" p) [o] [] pos) ρ ρ1 (aD X.K (.int ((kvs.length : Nat) : Int))) :=
  xe_callB call_lenD (xa_cons ho xa_nil hs) (fun E T t σ vs H Q l hl st k => by
    obtain ⟨v, rfl⟩ := vs1 hl
    have e0 := ST.topV st
    subst e0
    obtain ⟨G, F, f, c⟩ := ST.pop st
    obtain ⟨q, ws, e1, h1, h2⟩ := ST.seeD l c O
    refine ⟨q, ws, by rw [e1], h1, ?_⟩
    have := h2.len
    rw [List.length_map] at this
    rw [this]
    exact k _ _ (ST.put f c (.int _))) hm PySem.boot_len hg (by decide) (by decide) hs hpl
theorem dqI {K : PySem.W.Frag} {G : Hp} : ∀ ns : List Int, DqAll K G (ns.map V.int) (ns.map PyData.int)
  | [] => .nil
  | n :: ns => .cons (.int n) (dqI ns)
/-- sorted(d): the keys -/
theorem xe_dsorted (hc : X.calm = true) (hz : kvs.length < 64) (ho : XE X o ρ ρ1 (aV v0)) (O : Own ρ1 v0 (aDK X.K (dD kvs)) w) (hm : X.mg "sorted" = none) (hg : Gl X "sorted" := by rfl) (hs : starEach [o] X.env = [(false, eval o X.env)] := by rfl) (hpl : (backTo pos (starEach [] X.env)).any (·.1) = false := by rfl) : XE X (.Call (.Name "sorted" p) [o] [] pos) ρ ρ1 (aLD X.K ((srtI (dKeys kvs)).map PyData.int)) :=
  xe_callB (call_sortedDI hc) (xa_cons ho xa_nil hs) (fun E T t σ vs H Q l hl st k => by
    obtain ⟨v, rfl⟩ := vs1 hl
    have e0 := ST.topV st
    subst e0
    obtain ⟨G, F, f, c⟩ := ST.pop st
    obtain ⟨q, ws, e1, h1, h2⟩ := ST.seeD l c O
    refine ⟨q, ws, dKeys kvs, by rw [e1], .inl h1, by rw [h2.keys, dKeys_d], by unfold dKeys; rw [List.length_map]; exact hz, fun ys p' hp hsrt hn => ?_⟩
    have e := sorted_unique (hp.trans (srtI_perm _).symm) hsrt (srtI_sorted _)
    subst e
    exact k _ _ (ST.newL f c hn (dqI _))) hm (by decide +kernel) hg (by decide) (by decide) hs hpl
/-- list(d): the keys -/
theorem xe_dlist (hc : X.calm = true) (ho : XE X o ρ ρ1 (aV v0)) (O : Own ρ1 v0 (aDK X.K (dD kvs)) w) (hm : X.mg "list" = none) (hg : Gl X "list" := by rfl) (hs : starEach [o] X.env = [(false, eval o X.env)] := by rfl) (hpl : (backTo pos (starEach [] X.env)).any (·.1) = false := by rfl) : XE X (.Call (.Name "list" p) [o] [] pos) ρ ρ1 (aLD X.K ((dKeys kvs).map PyData.int)) :=
  xe_callTy (call_listD hc) (xa_cons ho xa_nil hs) (fun E T t σ vs H Q l hl st k => by
    obtain ⟨v, rfl⟩ := vs1 hl
    have e0 := ST.topV st
    subst e0
    obtain ⟨G, F, f, c⟩ := ST.pop st
    obtain ⟨q, ws, e1, h1, h2⟩ := ST.seeD l c O
    refine ⟨q, ws, by rw [e1], .inl h1, fun p' hn => ?_⟩
    have e : (ws.map fun kv => kV kv.1) = (dKeys kvs).map V.int := by
      have := congrArg (List.map kV) h2.keys
      rw [dKeys_d, List.map_map, List.map_map] at this
      exact this
    rw [e]
    exact k _ _ (ST.newL f c hn (dqI _))) hm (by decide +kernel) hg (by decide) (by decide) hs hpl
/-- sorted(xs) of ints -/
theorem xe_sortedI {A : OA} {xs : List Int} (ha : XE X a ρ ρ1 A) (r : Rls X.K ρ1 A (xs.map PyData.int)) (hm : X.mg "sorted" = none) (hg : Gl X "sorted" := by rfl) (hs : starEach [a] X.env = [(false, eval a X.env)] := by rfl) (hpl : (backTo pos (starEach [] X.env)).any (·.1) = false := by rfl) : XE X (.Call (.Name "sorted" p) [a] [] pos) ρ ρ1 (aLD X.K ((srtI xs).map PyData.int)) :=
  xe_callB cr_sortedI (xa_cons ha xa_nil hs) (fun E T t σ vs H Q l hl st k => by
    obtain ⟨v, rfl⟩ := vs1 hl
    obtain ⟨G, F, Fv, f, c, q⟩ := ST.one st
    obtain ⟨p1, ys, e1, e2, e3⟩ := r l c f.gh q
    have e : ys = xs.map V.int := by
      have : ∀ {ys : List V} {xs : List Int}, DqAll X.K G ys (xs.map PyData.int) → ys = xs.map V.int := fun {ys xs} => by
        induction xs generalizing ys with
        | nil => intro h; cases h; rfl
        | cons x xs ih =>
          intro h
          cases h with
          | cons h1 h2 => cases h1; rw [ih h2]; rfl
      exact this e3
    subst e
    refine ⟨p1, xs, by rw [e1], e2, fun zs p' hp hsrt hn => ?_⟩
    have e := sorted_unique (hp.trans (srtI_perm _).symm) hsrt (srtI_sorted _)
    subst e
    exact k _ _ (ST.newL f c hn (dqI _))) hm (by decide +kernel) hg (by decide) (by decide) hs hpl
/-- d.pop(k), it is there -/
theorem xe_dpop (hx : dGet kvs k = some x) (ho : XE X o ρ ρ (aV v0)) (O0 : Own ρ v0 (aDK X.K (dD kvs0)) w0) (hb : XE X b ρ ρ1 (aD X.K (.int k))) (O : Own ρ1 v0 (aDK X.K (dD kvs)) w) (M : M1 X o "pop" apos b cpos) : XE X (.Call (.Attribute o "pop" apos) [b] [] cpos) ρ (w (aDK X.K (dD (dDel kvs k)))) (aD X.K (Cd.d x)) := fun E T t σ H l st Q kk =>
  wE.of (pe_dpop1 peS peS M) (ho E T t σ H l st _ fun u H1 st1 => by
    have e0 := ST.topV st1
    subst e0
    obtain ⟨G0, F0, f0, c0⟩ := ST.pop st1
    obtain ⟨p0, ws0, e1, h0, q0⟩ := ST.seeD l c0 O0
    subst e1
    refine ⟨p0, rfl, .inl ⟨ws0, .inl h0⟩, hb E (_ :: T) (_ :: t) σ H1 (by simp [l]) st1 _ fun y H2 st2 => ?_⟩
    obtain ⟨G, F, f, c, q⟩ := ST.top (ST.drop2 st2)
    cases q
    obtain ⟨p, ws, e1, h1, q, _⟩ := ST.modD l f c O
    cases e1
    obtain ⟨v, e2, hv⟩ := q.get (dGet_d hx)
    refine ⟨ws, Sum.inl k, v, h1, rfl, e2, kk _ _ ?_⟩
    obtain ⟨p', ws', e3, h3, q3, go⟩ := ST.modD (T := some (aD X.K (Cd.d x)) :: T) (t := some v :: t) (by simp [l]) f ⟨v, [], F, rfl, rfl, ⟨hv, rfl⟩, c⟩ O
    cases e3
    rw [h1] at h3
    cases h3
    have q5 := go _ _ (q3.drop (k := k))
    rw [dDel_d] at q5
    exact q5)
/-- x in xs, ints -/
theorem inV_int (x : Int) : ∀ xs : List Int, inV (V.int x) (xs.map V.int) = decide (x ∈ xs)
  | [] => by simp [inV]
  | y :: ys => by
    have ih := inV_int x ys
    unfold inV at ih ⊢
    rw [List.map_cons, List.any_cons, ih]
    have : eqV (V.int y) (V.int x) = decide (y = x) := by
      unfold eqV
      first | rfl | simp
    rw [this]
    by_cases h : y = x
    · subst h; simp
    · have h' : x ≠ y := fun q => h q.symm
      simp [h, h']
end
end Mr

set_option Elab.async false
set_option linter.all false
set_option maxRecDepth 100000
/-! in, for lists of ints; tests in a while's head -/
namespace Mr
open PySem PySem.Spec PyProof.Rows L2
theorem impL_rfl : ∀ As : List OA, ImpL As As
  | [] => .nil
  | A :: As => .cons imp_rfl (impL_rfl As)
theorem impL_set {v : V} {A : OA} : ∀ {As : List OA} {k : Nat}, As[k]? = some A → ImpL (As.set k (pin v A)) As
  | [], k, h => by simp at h
  | B :: As, 0, h => by
    have e : B = A := by simpa using h
    subst e
    exact .cons imp_unpin (impL_rfl As)
  | B :: As, k + 1, h => .cons imp_rfl (impL_set (by simpa using h))
theorem dq_vints {K : PySem.W.Frag} {G : Hp} : ∀ {ys : List V} {xs : List Int}, DqAll K G ys (xs.map PyData.int) → ys = xs.map V.int
  | _, [], h => by cases h; rfl
  | _, x :: xs, h => by
    cases h with
    | cons h1 h2 => cases h1; rw [dq_vints h2]; rfl
section
variable {X : Cx} {ρ ρ1 ρ2 : Cl} {a b e : Expr} {pos : Pos} {A B : OA}
theorem xt_pinf (i k : Nat) {a0 : V} {C : Addr} {ns : List Str} {As : List OA} {bb : Bool} (h : ρ[i]? = some (some (pin a0 (aObj C ns As)))) (hk : As[k]? = some A) (kk : ∀ v, XT X e (ρ.set i (some (pin a0 (aObj C ns (As.set k (pin v A)))))) (ρ.set i (some (pin a0 (aObj C ns (As.set k (pin v A)))))) bb) : XT X e ρ ρ bb := fun E T t σ H l st Q k2 => by
  obtain ⟨G, F, f, c⟩ := st
  obtain ⟨F1, F2, e1, ⟨p, dx, vs, F', e2, e3, h1, hl, c1⟩, go⟩ := (Own.slot i h).get l c
  subst e2 e3
  obtain ⟨v, Fa, Fb, ev, e4, hq, c2⟩ := c1.getP hk
  obtain ⟨F3, a3, c4⟩ := c2.join (A := pin v A) (v := v) (F1 := Fa) (by rw [List.length_map]; exact lt_of_get hk) ⟨rfl, hq⟩
  have e6 : (vs.map some).set k (some v) = vs.map some := set_get (by rw [List.getElem?_map, ev]; rfl)
  rw [e6] at c4
  have c4 : Cs G H ((As.set k (pin v A)).map some) (vs.map some) F3 := by simpa [List.map_set] using c4
  obtain ⟨F5, a5, c5⟩ := go (.refl _) f.gh (fun b _ o q => q) (B := aObj C ns (As.set k (pin v A))) (F1' := p :: F3) ⟨p, dx, vs, F3, rfl, rfl, h1, hl, c4⟩
  refine kk v E T t σ H l ⟨G, F5, f.perm (e1.trans (List.Perm.trans (List.Perm.append_right F2 (List.Perm.cons p (e4.trans a3.symm))) a5.symm)), c5⟩ Q fun H' st' => k2 H' ?_
  obtain ⟨G', F6, f', c6⟩ := st'
  have hi : i < ρ.length := lt_of_get h
  have c7 := Cs.weak (i := T.length + i) (A := pin (V.ref p) (aObj C ns (As.set k (pin v A)))) (B := pin (V.ref p) (aObj C ns As)) c6 (by rw [append_get_right, List.getElem?_set_self hi]) (imp_pin (imp_obj (impL_set hk)))
  rw [append_set_right, set_set, set_get h] at c7
  exact ⟨G', F6, f', c7⟩
theorem xtm_pinf (i k : Nat) {a0 : V} {C : Addr} {ns : List Str} {As : List OA} {m : Option Bool} (h : ρ[i]? = some (some (pin a0 (aObj C ns As)))) (hk : As[k]? = some A) (kk : ∀ v, XTm X e (ρ.set i (some (pin a0 (aObj C ns (As.set k (pin v A)))))) m) : XTm X e ρ m := fun b hb => xt_pinf i k h hk fun v => kk v b hb
theorem xtm_st (ρ0 : Cl) {m : Option Bool} (h0 : ρ0 = ρ) (h : XTm X e ρ0 m) : XTm X e ρ m := h0 ▸ h
/-- x in xs, x not in xs: ints -/
theorem xk_in {x : Int} {xs : List Int} (ha : XE X a ρ ρ1 (aD X.K (.int x))) (hb : XE X b ρ1 ρ2 B) (r : Rls X.K ρ2 B (xs.map PyData.int)) (hm : behindInMarks .In b = false := by first | rfl | exact nomark _) : XKm X (.Compare a [.In] [b] pos) ρ ρ2 (decide (x ∈ xs)) :=
  ⟨_, pe_cmpR op_in_seq peS peS hm, pt_cmpR op_in_seq peS peS hm, fun E T t σ H l st Q kk => ha E T t σ H l st _ fun u H1 st1 => hb E (_ :: T) (_ :: t) σ H1 (by simp [l]) st1 _ fun y H2 st2 => by
    obtain ⟨G, F, Fv, Fw, f, c, q1, q2⟩ := ST.two st2
    obtain ⟨q1, _⟩ := q1
    cases q1
    obtain ⟨p, ys, e1, e2, e3⟩ := r l c f.gh q2
    have e4 := dq_vints e3
    subst e4
    refine ⟨p, _, e1, .inl e2, rfl, ?_, ?_⟩
    · rw [List.all_map]
      exact List.all_eq_true.mpr fun _ _ => rfl
    · show Q (V.bl (inV (V.int x) (xs.map V.int))) H2
      rw [inV_int]
      exact kk _ _ (ST.put f c (.bl _))⟩
theorem xk_nin {x : Int} {xs : List Int} (ha : XE X a ρ ρ1 (aD X.K (.int x))) (hb : XE X b ρ1 ρ2 B) (r : Rls X.K ρ2 B (xs.map PyData.int)) (hm : behindInMarks .NotIn b = false := by first | rfl | exact nomark _) : XKm X (.Compare a [.NotIn] [b] pos) ρ ρ2 (!decide (x ∈ xs)) :=
  ⟨_, pe_cmpR op_notIn_seq peS peS hm, pt_cmpR op_notIn_seq peS peS hm, fun E T t σ H l st Q kk => ha E T t σ H l st _ fun u H1 st1 => hb E (_ :: T) (_ :: t) σ H1 (by simp [l]) st1 _ fun y H2 st2 => by
    obtain ⟨G, F, Fv, Fw, f, c, q1, q2⟩ := ST.two st2
    obtain ⟨q1, _⟩ := q1
    cases q1
    obtain ⟨p, ys, e1, e2, e3⟩ := r l c f.gh q2
    have e4 := dq_vints e3
    subst e4
    refine ⟨p, _, e1, .inl e2, rfl, ?_, ?_⟩
    · rw [List.all_map]
      exact List.all_eq_true.mpr fun _ _ => rfl
    · show Q (V.bl (!inV (V.int x) (xs.map V.int))) H2
      rw [inV_int]
      exact kk _ _ (ST.put f c (.bl _))⟩
/-- max(xs), min(xs) of ints -/
def maxI : List Int → Option Int
  | [] => none
  | x :: xs => some (xs.foldl max x)
def minI : List Int → Option Int
  | [] => none
  | x :: xs => some (xs.foldl min x)
theorem foldl_max : ∀ (xs : List Int) (x : Int), (xs.foldl max x ∈ x :: xs) ∧ ∀ y ∈ x :: xs, y ≤ xs.foldl max x
  | [], x => ⟨by simp, fun y hy => by simp at hy; show y ≤ x; omega⟩
  | z :: xs, x => by
    obtain ⟨h1, h2⟩ := foldl_max xs (max x z)
    have hm := h2 (max x z) (by simp)
    refine ⟨?_, fun y hy => ?_⟩
    · show xs.foldl max (max x z) ∈ _
      rcases List.mem_cons.mp h1 with e | e
      · rw [e]
        by_cases q : x ≤ z
        · rw [Int.max_eq_right q]; simp
        · rw [Int.max_eq_left (by omega)]; simp
      · simp [e]
    · show y ≤ xs.foldl max (max x z)
      rcases List.mem_cons.mp hy with e | e
      · have : x ≤ max x z := by omega
        omega
      · rcases List.mem_cons.mp e with e | e
        · have : z ≤ max x z := by omega
          omega
        · exact h2 y (by simp [e])
theorem foldl_min : ∀ (xs : List Int) (x : Int), (xs.foldl min x ∈ x :: xs) ∧ ∀ y ∈ x :: xs, xs.foldl min x ≤ y
  | [], x => ⟨by simp, fun y hy => by simp at hy; show x ≤ y; omega⟩
  | z :: xs, x => by
    obtain ⟨h1, h2⟩ := foldl_min xs (min x z)
    have hm := h2 (min x z) (by simp)
    refine ⟨?_, fun y hy => ?_⟩
    · show xs.foldl min (min x z) ∈ _
      rcases List.mem_cons.mp h1 with e | e
      · rw [e]
        by_cases q : x ≤ z
        · rw [Int.min_eq_left q]; simp
        · rw [Int.min_eq_right (by omega)]; simp
      · simp [e]
    · show xs.foldl min (min x z) ≤ y
      rcases List.mem_cons.mp hy with e | e
      · have : min x z ≤ x := by omega
        omega
      · rcases List.mem_cons.mp e with e | e
        · have : min x z ≤ z := by omega
          omega
        · exact h2 y (by simp [e])
theorem xe_max1 {xs : List Int} {r : Int} {p : Pos} (hc : X.calm = true) (hr : maxI xs = some r) (ha : XE X a ρ ρ1 A) (rl : Rls X.K ρ1 A (xs.map PyData.int)) (hm : X.mg "max" = none) (hg : Gl X "max" := by rfl) (hs : starEach [a] X.env = [(false, eval a X.env)] := by rfl) (hpl : (backTo pos (starEach [] X.env)).any (·.1) = false := by rfl) : XE X (.Call (.Name "max" p) [a] [] pos) ρ ρ1 (aD X.K (.int r)) :=
  xe_callB (cr_max hc) (xa_cons ha xa_nil hs) (fun E T t σ vs H Q l hl st k => by
    obtain ⟨v, rfl⟩ := vs1 hl
    obtain ⟨G, F, Fv, f, c, q⟩ := ST.one st
    obtain ⟨p1, ys, e1, e2, e3⟩ := rl l c f.gh q
    have e := dq_vints e3
    subst e
    cases xs with
    | nil => cases hr
    | cons x xs =>
      cases hr
      obtain ⟨h1, h2⟩ := foldl_max xs x
      refine ⟨p1, _, by rw [e1], e2, by simp, fun m hm hle => ?_⟩
      have e : m = xs.foldl max x := Int.le_antisymm (h2 m hm) (hle _ h1)
      subst e
      exact k _ _ (ST.put f c (.int _))) hm (by decide +kernel) hg (by decide) (by decide) hs hpl
theorem xe_min1 {xs : List Int} {r : Int} {p : Pos} (hc : X.calm = true) (hr : minI xs = some r) (ha : XE X a ρ ρ1 A) (rl : Rls X.K ρ1 A (xs.map PyData.int)) (hm : X.mg "min" = none) (hg : Gl X "min" := by rfl) (hs : starEach [a] X.env = [(false, eval a X.env)] := by rfl) (hpl : (backTo pos (starEach [] X.env)).any (·.1) = false := by rfl) : XE X (.Call (.Name "min" p) [a] [] pos) ρ ρ1 (aD X.K (.int r)) :=
  xe_callB (cr_min hc) (xa_cons ha xa_nil hs) (fun E T t σ vs H Q l hl st k => by
    obtain ⟨v, rfl⟩ := vs1 hl
    obtain ⟨G, F, Fv, f, c, q⟩ := ST.one st
    obtain ⟨p1, ys, e1, e2, e3⟩ := rl l c f.gh q
    have e := dq_vints e3
    subst e
    cases xs with
    | nil => cases hr
    | cons x xs =>
      cases hr
      obtain ⟨h1, h2⟩ := foldl_min xs x
      refine ⟨p1, _, by rw [e1], e2, by simp, fun m hm hle => ?_⟩
      have e : m = xs.foldl min x := Int.le_antisymm (hle _ h1) (h2 m hm)
      subst e
      exact k _ _ (ST.put f c (.int _))) hm (by decide +kernel) hg (by decide) (by decide) hs hpl
end
end Mr

set_option Elab.async false
set_option linter.all false
set_option maxRecDepth 100000
/-! and, or whose operands change something -/
namespace Mr
open PySem PySem.Spec PyProof.Rows L2
section
variable {X : Cx} {ρ ρ1 ρ2 : Cl} {a b e : Expr} {pos : Pos} {β κ : Type} {N : β → Cl} {rest : List Expr}
def XTs (X : Cx) {β : Type} (e : Expr) (ρ : Cl) (m : Option (Bool × β)) (N : β → Cl) : Prop := ∀ r, m = some r → XT X e ρ (N r.2) r.1
def XWs (X : Cx) {β : Type} (e : Expr) (ρ : Cl) (m : Option (Bool × β)) (N : β → Cl) : Prop := ∀ r, m = some r → XW X e ρ (N r.2) r.1
theorem xts_some {k : Bool} {s : β} (h : XT X e ρ ρ1 k) (q : N s = ρ1) : XTs X e ρ (some (k, s)) N := fun r hr => by
  cases hr
  show XT X e ρ (N s) k
  rw [q]; exact h
theorem xts_bind {m1 : Option κ} {f : κ → Option (Bool × β)} (h : ∀ x, m1 = some x → XTs X e ρ (f x) N) : XTs X e ρ (m1.bind f) N := fun o ho => by
  cases hm : m1 with
  | none => rw [hm] at ho; cases ho
  | some x => rw [hm] at ho; exact h x hm o ho
theorem xws_and1 {m : Option (Bool × β)} (h : XTs X a ρ m N) : XWs X (.BoolOp .And [a] pos) ρ m N := fun r hr => xw_and1 (h r hr)
theorem xws_or1 {m : Option (Bool × β)} (h : XTs X a ρ m N) : XWs X (.BoolOp .Or [a] pos) ρ m N := fun r hr => xw_or1 (h r hr)
theorem xws_and {m : Option (Bool × β)} {f : β → Option (Bool × β)} (h : XTs X a ρ m N) (h2 : ∀ s, XWs X (.BoolOp .And (b :: rest) pos) (N s) (f s) N) : XWs X (.BoolOp .And (a :: b :: rest) pos) ρ (m.bind fun r => if r.1 = true then f r.2 else some (false, r.2)) N := fun r hr => by
  cases hm : m with
  | none => rw [hm] at hr; cases hr
  | some q =>
    rw [hm] at hr
    obtain ⟨k, s⟩ := q
    have h1 := h _ hm
    intro E T t σ H l st Q kk
    refine wW.of (pw_and ptS pwS) (h1 E T t σ H l st _ fun H1 st1 => ?_)
    cases k with
    | true => exact h2 s r hr E T t σ H1 l st1 Q kk
    | false => cases hr; exact kk H1 st1
theorem xws_or {m : Option (Bool × β)} {f : β → Option (Bool × β)} (h : XTs X a ρ m N) (h2 : ∀ s, XWs X (.BoolOp .Or (b :: rest) pos) (N s) (f s) N) : XWs X (.BoolOp .Or (a :: b :: rest) pos) ρ (m.bind fun r => if r.1 = true then some (true, r.2) else f r.2) N := fun r hr => by
  cases hm : m with
  | none => rw [hm] at hr; cases hr
  | some q =>
    rw [hm] at hr
    obtain ⟨k, s⟩ := q
    have h1 := h _ hm
    intro E T t σ H l st Q kk
    refine wW.of (pw_or ptS pwS) (h1 E T t σ H l st _ fun H1 st1 => ?_)
    cases k with
    | false => exact h2 s r hr E T t σ H1 l st1 Q kk
    | true => cases hr; exact kk H1 st1
theorem xt_ws {m : Option (Bool × β)} {c : Bool × β} (h : XWs X e ρ m N) (hm : m = some c) : XT X e ρ (N c.2) c.1 := xt_w (h c hm)
/-- as values -/
def XBs (X : Cx) {β : Type} (e : Expr) (ρ : Cl) (m : Option (Bool × β)) (N : β → Cl) : Prop := ∀ r, m = some r → XE X e ρ (N r.2) (aD X.K (.bool r.1))
theorem xbs_some {k : Bool} {s : β} (h : XE X e ρ ρ1 (aD X.K (.bool k))) (q : N s = ρ1) : XBs X e ρ (some (k, s)) N := fun r hr => by
  cases hr
  show XE X e ρ (N s) _
  rw [q]; exact h
theorem xbs_bind {m1 : Option κ} {f : κ → Option (Bool × β)} (h : ∀ x, m1 = some x → XBs X e ρ (f x) N) : XBs X e ρ (m1.bind f) N := fun o ho => by
  cases hm : m1 with
  | none => rw [hm] at ho; cases ho
  | some x => rw [hm] at ho; exact h x hm o ho
theorem xbs_and1 {m : Option (Bool × β)} (h : XBs X a ρ m N) : XBs X (.BoolOp .And [a] pos) ρ m N := fun r hr => xe_one (h r hr)
theorem xbs_or1 {m : Option (Bool × β)} (h : XBs X a ρ m N) : XBs X (.BoolOp .Or [a] pos) ρ m N := fun r hr => xe_one (h r hr)
theorem xbs_and {m : Option (Bool × β)} {f : β → Option (Bool × β)} (h : XBs X a ρ m N) (h2 : ∀ s, XBs X (.BoolOp .And (b :: rest) pos) (N s) (f s) N) : XBs X (.BoolOp .And (a :: b :: rest) pos) ρ (m.bind fun r => if r.1 = true then f r.2 else some (false, r.2)) N := fun r hr => by
  cases hm : m with
  | none => rw [hm] at hr; cases hr
  | some q =>
    rw [hm] at hr
    obtain ⟨k, s⟩ := q
    have h1 := h _ hm
    intro E T t σ H l st Q kk
    refine wE.of (pe_and peS peS) (h1 E T t σ H l st _ fun x H1 st1 => ?_)
    obtain ⟨G, F, f, cs, q⟩ := ST.top st1
    cases q
    refine ⟨k, rfl, ?_⟩
    cases k with
    | true => exact h2 s r hr E T t σ H1 l ⟨G, F, f, cs⟩ Q kk
    | false => cases hr; exact kk _ H1 (ST.put f cs (.bl _))
theorem xbs_or {m : Option (Bool × β)} {f : β → Option (Bool × β)} (h : XBs X a ρ m N) (h2 : ∀ s, XBs X (.BoolOp .Or (b :: rest) pos) (N s) (f s) N) : XBs X (.BoolOp .Or (a :: b :: rest) pos) ρ (m.bind fun r => if r.1 = true then some (true, r.2) else f r.2) N := fun r hr => by
  cases hm : m with
  | none => rw [hm] at hr; cases hr
  | some q =>
    rw [hm] at hr
    obtain ⟨k, s⟩ := q
    have h1 := h _ hm
    intro E T t σ H l st Q kk
    refine wE.of (pe_or peS peS) (h1 E T t σ H l st _ fun x H1 st1 => ?_)
    obtain ⟨G, F, f, cs, q⟩ := ST.top st1
    cases q
    refine ⟨k, rfl, ?_⟩
    cases k with
    | false => exact h2 s r hr E T t σ H1 l ⟨G, F, f, cs⟩ Q kk
    | true => cases hr; exact kk _ H1 (ST.put f cs (.bl _))
theorem xe_bs {m : Option (Bool × β)} {c : Bool × β} (h : XBs X e ρ m N) (hm : m = some c) : XE X e ρ (N c.2) (aD X.K (.bool c.1)) := h c hm
end
end Mr

set_option Elab.async false
set_option linter.all false
set_option maxRecDepth 100000
/-! min of a dict's keys -/
namespace Mr
open PySem PySem.Spec PyProof.Rows L2
section
variable {X : Cx} {ρ ρ1 : Cl} {o : Expr} {pos p : Pos} {v0 : V} {w : OA → Cl} {α : Type} [Cd α] {kvs : List (Int × α)}
theorem xe_dmin {r : Int} (hc : X.calm = true) (hr : minI (dKeys kvs) = some r) (ho : XE X o ρ ρ1 (aV v0)) (O : Own ρ1 v0 (aDK X.K (dD kvs)) w) (hm : X.mg "min" = none) (hg : Gl X "min" := by rfl) (hs : starEach [o] X.env = [(false, eval o X.env)] := by rfl) (hpl : (backTo pos (starEach [] X.env)).any (·.1) = false := by rfl) : XE X (.Call (.Name "min" p) [o] [] pos) ρ ρ1 (aD X.K (.int r)) :=
  xe_callB (cr_minK hc) (xa_cons ho xa_nil hs) (fun E T t σ vs H Q l hl st k => by
    obtain ⟨v, rfl⟩ := vs1 hl
    have e0 := ST.topV st
    subst e0
    obtain ⟨G, F, f, c⟩ := ST.pop st
    obtain ⟨q, ws, e1, h1, h2⟩ := ST.seeD l c O
    cases hk : dKeys kvs with
    | nil => rw [hk] at hr; cases hr
    | cons x xs =>
      rw [hk] at hr
      cases hr
      obtain ⟨m1, m2⟩ := foldl_min xs x
      refine ⟨q, ws, dKeys kvs, by rw [e1], h1, by rw [h2.keys, dKeys_d], by rw [hk]; simp, fun m hm hle => ?_⟩
      rw [hk] at hm hle
      have e : m = xs.foldl min x := Int.le_antisymm (hle _ m1) (m2 m hm)
      subst e
      exact k _ _ (ST.put f c (.int _))) hm (by decide +kernel) hg (by decide) (by decide) hs hpl
end
end Mr

set_option Elab.async false
set_option linter.all false
set_option maxRecDepth 100000
/-! range(a, b, c) -/
namespace Mr
open PySem PySem.Spec PyProof.Rows L2
/-- lo, lo + c, .. (n of them) -/
def rangeC (lo c : Int) (n : Nat) : List Int := (List.range n).map fun i : Nat => lo + (i : Int) * c
theorem rangeC_len (lo c : Int) (n : Nat) : (rangeC lo c n).length = n := by unfold rangeC; rw [List.length_map, List.length_range]
theorem rangeC_at {lo c : Int} {n i : Nat} (h : i < n) : (rangeC lo c n)[i]? = some (lo + (i : Int) * c) := by
  unfold rangeC
  rw [List.getElem?_map, List.getElem?_range h]
  rfl
theorem rangeC_get {lo c : Int} {n i : Nat} {x : Int} (h : (rangeC lo c n)[i]? = some x) : x = lo + (i : Int) * c ∧ i < n := by
  have hl := lt_of_get h
  rw [rangeC_len] at hl
  rw [rangeC_at hl] at h
  cases h
  exact ⟨rfl, hl⟩
def rgN (a b c : Int) : Nat := (Builtin.Range.rangeSize a b c).toNat
def RgOk (a b c : Int) : Prop := c ≠ 0 ∧ c.natAbs < 1073741824 ∧ Builtin.Range.small a b c = true ∧ 0 ≤ Builtin.Range.rangeSize a b c
instance : Decidable (RgOk a b c) := by unfold RgOk; exact inferInstance
theorem rgN_up {a b c : Int} (hc : 0 < c) : (rgN a b c : Int) = if a < b then (b - a - 1) / c + 1 else 0 := by
  unfold rgN Builtin.Range.rangeSize
  rw [if_pos hc]
  split
  · have : 0 ≤ (b - a - 1) / c := Int.ediv_nonneg (by omega) (by omega)
    omega
  · rfl
theorem rgN_down {a b : Int} : rgN a b (-1) = (a - b).toNat := by
  unfold rgN
  rw [PySem.W.rangeSize_downNat]
  rfl
theorem rgOk_down {a b : Int} (ha : -(2 ^ 62) ≤ a) (ha' : a < 2 ^ 62) (hb : -(2 ^ 62) ≤ b) (hb' : b < 2 ^ 62) : RgOk a b (-1) :=
  ⟨by decide, by decide, PySem.W.small_down ha ha' hb hb', by rw [PySem.W.rangeSize_downNat]; omega⟩
theorem rgOk_up {a b c : Int} (hc : 0 < c) (hc' : c < 1000000) (ha : 0 ≤ a) (ha' : a < 1000000) (hb : 0 ≤ b) (hb' : b < 1000000) : RgOk a b c := by
  have hs : 0 ≤ Builtin.Range.rangeSize a b c ∧ Builtin.Range.rangeSize a b c ≤ 1000001 := by
    unfold Builtin.Range.rangeSize
    rw [if_pos hc]
    split
    · have h1 : 0 ≤ (b - a - 1) / c := Int.ediv_nonneg (by omega) (by omega)
      have h2 : (b - a - 1) / c ≤ b - a - 1 := Int.ediv_le_self _ (by omega)
      omega
    · omega
  refine ⟨by omega, by omega, ?_, hs.1⟩
  unfold Builtin.Range.small
  simp only [Builtin.Range.rangeFitsLong, Bool.and_eq_true, Bool.or_eq_true, decide_eq_true_eq, beq_iff_eq, if_pos hc]
  omega
section
variable {X : Cx} {ρ ρ1 ρ2 ρ3 : Cl} {a b c : Expr} {tg : Expr} {pos p : Pos}
theorem itc_gives {E : Ent} (lo k : Int) (n : Nat) : Gives (Itc lo k n) E okAll (rangeC lo k n) (fun x => aD X.K (.int x)) where
  go := fun i hi _ _ _ _ _ _ _ _ => by rw [rangeC_len] at hi; exact hi
  stop := fun _ _ _ _ _ _ _ _ => by rw [rangeC_len]; exact Nat.le_refl _
  yld := fun i x v H H' hx T t L C l _ st y => by
    obtain ⟨e1, e2⟩ := y
    obtain ⟨e3, _⟩ := rangeC_get hx
    subst e1 e2 e3
    obtain ⟨G, F, f, c⟩ := st
    exact ST.put f c (.int _)
theorem xi_range3 {n m k : Int} (hg : Gl X "range") (hm : X.mg "range" = none) (ok : RgOk n m k) (ha : XE X a ρ ρ1 (aD X.K (.int n))) (hb : XE X b ρ1 ρ2 (aD X.K (.int m))) (hc : XE X c ρ2 ρ3 (aD X.K (.int k)))
    (hs : starEach [a, b, c] X.env = [(false, eval a X.env), (false, eval b X.env), (false, eval c X.env)] := by rfl) (hs2 : starEach [b, c] X.env = [(false, eval b X.env), (false, eval c X.env)] := by rfl) (hs3 : starEach [c] X.env = [(false, eval c X.env)] := by rfl) :
    XI X tg (.Call (.Name "range" p) [a, b, c] [] pos) ρ ρ3 okAll (rangeC n k (rgN n m k)) (fun x => aD X.K (.int x)) := fun E T t σ H l st R kk =>
  wI.of (pi_range3 hg hm (pa_cons peS (pa_cons peS (pa_cons peS pa_nil hs3) (by rw [hs2, hs3])) (by rw [hs, hs2])) (by rw [hs, hs2]) (by rw [hs2]; rfl)) (ha E T t σ H l st _ fun v H1 st1 => hb E (_ :: T) (_ :: t) σ H1 (by simp [l]) st1 _ fun w H2 st2 => hc E (_ :: _ :: T) (_ :: _ :: t) σ H2 (by simp [l]) st2 _ fun u H3 st3 => by
    obtain ⟨G, F, f, cs, q1⟩ := ST.top st3
    cases q1
    obtain ⟨G2, F2, f2, cs2, q2, q3⟩ := ST.top2 ⟨G, F, f, cs⟩
    cases q2
    cases q3
    exact ⟨n, m, k, rgN n m k, rfl, ⟨ok.1, ok.2.1, ok.2.2.1, (Int.toNat_of_nonneg ok.2.2.2).symm⟩, kk _ E _ (.refl _) ⟨G2, F2, f2, cs2⟩ (itc_gives n k (rgN n m k))⟩)
/-- what stands behind the iterated thing may be told more weakly -/
theorem xi_weak {α : Type} {iter : Expr} {ρ ρ1 : Cl} {xs : List α} {cv : α → OA} (hi : XI X tg iter ρ ρ1 okAll xs cv) (i : Nat) {B B' : OA} (h : ρ1[i]? = some (some B)) (w : Imp B B') : XI X tg iter ρ (ρ1.set i (some B')) okAll xs cv := fun E T t σ H l st R k =>
  hi E T t σ H l st R fun J E' H' lt st1 gv => k J E' H' lt (by
    obtain ⟨G, F, f, c⟩ := st1
    have q := Cs.weak (i := T.length + i) (A := B) (B := B') c (by rw [append_get_right]; exact h) w
    rw [append_set_right] at q
    exact ⟨G, F, f, q⟩) gv
end
end Mr

set_option Elab.async false
set_option linter.all false
set_option maxRecDepth 100000
/-! exceptions: what a def raises has its own mirror (some z: it raises; none: nothing is said), beside the mirror of what it returns -/
namespace Mr
open PySem PySem.Spec PyProof.Rows L2

/-- an own exception class (over ValueError) at a module's name -/
structure ExK (K : PySem.W.Frag) (mg : Str → Option Value) (x : Str) (C : Addr) : Prop where
  g : mg x = some (.ref C)
  q : PySem.W.excIn K C [.type "ValueError", .type "Exception", .type "BaseException", .type "object"] "ValueError.__new__" = true
  k : PySem.W.keepIn K (.ref C) = true
  b : PySem.W.subIn K (.ref C) (.type "BaseException") = some true
  t : PySem.W.typeIn K (.ref C) = some (.type "type")
section
variable {X : Cx} {C : Addr} {x : Str} {p pos : Pos}
/-- C() -/
theorem pmk_own0 (T : ExK X.K X.mg x C) (hg : Gl X x) (hdb : (x == ("__debug__" : Str)) = false := by decide) : PMk X (.Call (.Name x p) [] [] pos) (fun _ H Q => Q (.ref C) none H) := by
  intro pins s σ H Q I h
  refine wpAny_Call_Name_kw (ld_glob I hg T.g (PySem.W.callWith_K0 I.kIn T.k ?_) hdb)
  obtain ⟨_, _, _, _, _, _, _, _, _, _, _, _, _, _, _, _, _, hC, hN, hni, tl⟩ := exc_obj I.kIn T.q
  exact wpAny_call_exc_subT (rest := []) PySem.F.excBase_ValueError tl hC hN hni (fun _ _ mk => mk_of I mk (raises_own T.b T.t) h (I.hok.gone mk.new)) (Nat.zero_le _)
end

/-- it raises an error of the class c -/
def oZ {ζ : Type} (W : WX) (c : Value) (R : ζ → Cl) : ζ → Ent → Ends → Prop := fun z E _ => ∀ σ' H', ST E (R z) σ' H' → W c none σ' H'
def oBZ {ζ β : Type} (W : WX) (c : Value) (R : ζ → Cl) (N : β → Cl) : ζ ⊕ β → Ent → Ends → Prop
  | .inl z => oZ W c R z
  | .inr b => oS N b
/-- a raising call: the expression raises c, and R holds -/
def XZ (X : Cx) (e : Expr) (ρ ρx : Cl) (W : WX) (c : Value) : Prop := ∀ (E : Ent) (σ : L2.St) (H : Hp), ST E ρ σ H → (∀ H', ST E ρx σ H' → W c none σ H') → ∀ Q, wE X e σ H Q

section
variable {X : Cx} {ζ β ω : Type} {sts rest : List Stmt} {ρ ρ1 ρx : Cl} {a c e : Expr} {pos p : Pos} {W : WX} {cz : Value} {R : ζ → Cl} {N : β → Cl} {Φ : ω → Ent → Ends → Prop} {A : OA}
/-- raise C() -/
theorem xg_raise {C : Addr} {x : Str} {z : ζ} {pos' : Pos} (T : ExK X.K X.mg x C) (tk : Takes X W) (hc : X.calm = true) (w : Wk ρ (R z)) (hg : Gl X x := by rfl) (hdb : (x == ("__debug__" : Str)) = false := by decide) :
    XG X (.Raise (some (.Call (.Name x p) [] [] pos)) none pos' :: rest) ρ (some z) (oZ W (.ref C) R) := fun o ho E σ H D st q => by
  cases ho
  exact wS.of (pss_cons (ps_raise hc tk (pmk_own0 T hg hdb)) pssS) (q σ H (st.wk w))
theorem xg_exprZ {z : ζ} (h : XZ X e ρ ρx W cz) (w : Wk ρx (R z)) (hs : swapsWith e none pos.line X.env = pure false := by rfl) : XG X (.Expr e pos :: rest) ρ (some z) (oZ W cz R) := fun o ho E σ H D st q => by
  cases ho
  exact wS.of (pss_cons (ps_expr peS hs) pssS) (h E σ H st (fun H' st1 => q σ H' (st1.wk w)) _)
theorem xg_asgZ {z : ζ} (i : Nat) {x : Str} {pos' : Pos} (h : XZ X e ρ ρx W cz) (w : Wk ρx (R z)) (hN : X.N.Nodup := by assumption) (hi : X.N[i]? = some x := by rfl) (hx : Loc X.env.scope x := by first | exact .inl rfl | exact .inr rfl)
    (hs : swapsWith e (some (.Name x pos')) pos.line X.env = pure false := by rfl) (hf : X.fn x = true ∨ X.env.scope.names.lookup x = some .local := by first | exact .inl rfl | exact .inr rfl | assumption) : XG X (.Assign [.Name x pos'] e pos :: rest) ρ (some z) (oZ W cz R) := fun o ho E σ H D st q => by
  cases ho
  exact wS.of (pss_cons (ps_set hN hi hx peS hs hf) pssS) (h E σ H st (fun H' st1 => q σ H' (st1.wk w)) _)
theorem xg_retZ {z : ζ} (h : XZ X e ρ ρx W cz) (w : Wk ρx (R z)) : XG X (.Return (some e) pos :: rest) ρ (some z) (oZ W cz R) := fun o ho E σ H D st q => by
  cases ho
  exact wS.of (pss_cons (ps_ret peS) pssS) (h E σ H st (fun H' st1 => q σ H' (st1.wk w)) _)
/-- first what raises, else what goes on -/
def orZ (mz : Option ζ) (f : ζ → ω) (k : Option ω) : Option ω := match mz with
  | some z => some (f z)
  | none => k
theorem xg_orZ {mz : Option ζ} {f : ζ → ω} {k : Option ω} (hz : ∀ z, mz = some z → XG X sts ρ (some (f z)) Φ) (h : XG X sts ρ k Φ) : XG X sts ρ (orZ mz f k) Φ := by
  cases mz with
  | none => exact h
  | some z => exact hz z rfl
/-- if, where each branch raises or is not spoken of -/
theorem xg_ifZ {k : Bool} {t u : List Stmt} {m1 m2 : Option ζ} (hc : XT X c ρ ρ1 k) (h1 : k = true → XG X t ρ1 m1 (oZ W cz R)) (h2 : k = false → XG X u ρ1 m2 (oZ W cz R)) : XG X (.If c t u pos :: rest) ρ (if k = true then m1 else m2) (oZ W cz R) := fun o ho E σ H D st q =>
  wS.of (pss_cons (ps_if ptS pssS pssS) pssS) (hc E [] [] σ H rfl st _ fun H1 st1 => by
    cases k with
    | true => exact h1 rfl o ho E σ H1 _ st1 q
    | false => exact h2 rfl o ho E σ H1 _ st1 q)
/-- if c: raise; then the rest -/
theorem xg_ifZR {k : Bool} {t : List Stmt} {m1 m2 : Option ζ} (hc : XT X c ρ ρ1 k) (h1 : k = true → XG X t ρ1 m1 (oZ W cz R)) (h2 : k = false → XG X rest ρ1 m2 (oZ W cz R)) : XG X (.If c t [] pos :: rest) ρ (if k = true then m1 else m2) (oZ W cz R) := fun o ho E σ H D st q =>
  wS.of (pss_cons (ps_if ptS pssS pssS) pssS) (hc E [] [] σ H rfl st _ fun H1 st1 => by
    cases k with
    | true => exact h1 rfl o ho E σ H1 _ st1 q
    | false => exact wS.of pss_nil (h2 rfl o ho E σ H1 D st1 q))
theorem xg_ifZB {k : Bool} {t : List Stmt} {m1 : Option ζ} {m2 : Option (ζ ⊕ β)} (hc : XT X c ρ ρ1 k) (h1 : k = true → XG X t ρ1 m1 (oZ W cz R)) (h2 : k = false → XG X rest ρ1 m2 (oBZ W cz R N)) : XG X (.If c t [] pos :: rest) ρ (if k = true then m1.map Sum.inl else m2) (oBZ W cz R N) := fun o ho E σ H D st q =>
  wS.of (pss_cons (ps_if ptS pssS pssS) pssS) (hc E [] [] σ H rfl st _ fun H1 st1 => by
    cases k with
    | true =>
      cases m1 with
      | none => cases ho
      | some r => cases ho; exact h1 rfl r rfl E σ H1 _ st1 q
    | false => exact wS.of pss_nil (h2 rfl o ho E σ H1 D st1 q))
theorem xg_nilBZ {b : β} (w : Wk ρ (N b)) : XG X [] ρ (some (Sum.inr b)) (oBZ W cz R N) := fun o ho E σ H D st q => by
  cases ho
  exact wS.of pss_nil (q σ H (st.wk w))
end

/-! ### a walk whose turns may raise -/
section
variable {X : Cx} {α ζ β : Type} {body rest : List Stmt} {ρ ρ1 : Cl} {tg iter : Expr} {pos : Pos} {W : WX} {cz : Value} {R : ζ → Cl} {N : β → Cl}
theorem forBZ {g : TG} {xs : List α} {f : β → α → Option (ζ ⊕ β)} {s0 : β} {In : α → β → Cl} {D : Ends} {E : Ent} {σ : L2.St} {H : Hp} {o1 : ζ ⊕ β}
    (J : It) (hs : foldB f xs s0 = some o1) (st : ST E (N s0) σ H) (hk : ∀ s1, o1 = .inr s1 → ∀ σ' H', ST E (N s1) σ' H' → D.nx σ' H') (hr : ∀ r, o1 = .inl r → oZ W cz R r E D)
    (go : ∀ n s σ' H', n < xs.length → ST E (N s) σ' H' → J.go n H') (stop : ∀ s σ' H', ST E (N s) σ' H' → J.stop xs.length H')
    (yld : ∀ n x s σ' H' v H2, xs[n]? = some x → ST E (N s) σ' H' → J.yld n H' v H2 → ∀ P : L2.St → Hp → Prop, (∀ σ2 H3, ST E (In x s) σ2 H3 → P σ2 H3) → g v σ' H2 P)
    (hb : ∀ x s, XG X body (In x s) (f s x) (oBZ W cz R N)) :
    ∃ V : Nat → Nat → L2.St → Hp → Prop, (∃ m, V 0 m σ H) ∧ ∀ i m σ H, V i m σ H →
      (J.stop i H ∧ D.nx σ H) ∨ (J.go i H ∧ ∃ Nx : L2.St → Hp → Prop, (∀ σ' H', Nx σ' H' → ∃ m', m' < m ∧ V (i + 1) m' σ' H') ∧ ∀ x H', J.yld i H x H' → g x σ H' fun σ2 H2 => wS X body { D with nx := Nx, ct := Nx, bk := D.nx } σ2 H2) := by
  refine ⟨fun n m σ H => m = xs.length - n ∧ n ≤ xs.length ∧ ∃ s, foldB f (xs.drop n) s = some o1 ∧ ST E (N s) σ H, ⟨xs.length, by simp, Nat.zero_le _, s0, by simpa using hs, st⟩, ?_⟩
  rintro n m σ H ⟨rfl, hn, s, hf, st⟩
  by_cases hlt : n < xs.length
  · have ed : xs.drop n = xs[n] :: xs.drop (n + 1) := List.drop_eq_getElem_cons hlt
    rw [ed] at hf
    have hf : thenR (f s xs[n]) (foldB f (xs.drop (n + 1))) Sum.inl = some o1 := hf
    unfold thenR at hf
    cases hfx : f s xs[n] with
    | none => rw [hfx] at hf; cases hf
    | some o2 =>
      rw [hfx] at hf
      cases o2 with
      | inr s2 =>
        have hf : foldB f (xs.drop (n + 1)) s2 = some o1 := hf
        refine .inr ⟨go n s σ H hlt st, fun σ' H' => ST E (N s2) σ' H', fun σ' H' st' => ⟨xs.length - (n + 1), by omega, rfl, hlt, s2, hf, st'⟩, fun v H' y => ?_⟩
        refine yld n xs[n] s σ H v H' (List.getElem?_eq_getElem hlt) st y _ fun σ2 H2 p => ?_
        exact hb xs[n] s _ hfx E σ2 H2 _ p fun σ' H' st' => st'
      | inl r =>
        have hf : some (Sum.inl r) = some o1 := hf
        cases hf
        refine .inr ⟨go n s σ H hlt st, fun σ' H' => False, fun σ' H' st' => st'.elim, fun v H' y => ?_⟩
        refine yld n xs[n] s σ H v H' (List.getElem?_eq_getElem hlt) st y _ fun σ2 H2 p => ?_
        exact hb xs[n] s _ hfx E σ2 H2 _ p (hr r rfl)
  · have e : n = xs.length := by omega
    subst e
    rw [List.drop_length] at hf
    have hf : some (Sum.inr s) = some o1 := hf
    cases hf
    exact .inl ⟨stop s σ H st, hk s rfl σ H st⟩
theorem xg_forZ {Ok : Cl → Prop} {xs : List α} {cv : α → OA} {f : β → α → Option (ζ ⊕ β)} {s0 : β} {In : α → β → Cl} {kk : β → Option ζ} (hp : PassesOwn (model X.prog X.w) X.A X.env X.xe) (hc : X.calm = true) (hi : XI X tg iter ρ ρ1 Ok xs cv) (hw : Wk ρ1 (N s0)) (hok : ∀ s, Ok (N s))
    (ht : ∀ x s, XP X tg (cv x) (N s) (In x s)) (hb : ∀ x s, XG X body (In x s) (f s x) (oBZ W cz R N)) (h : ∀ s, XG X rest (N s) (kk s) (oZ W cz R)) (hs : ∀ x, foldedSetIterable iter X.env x = pure x := by intro _; rfl) :
    XG X (.For tg iter body [] pos :: rest) ρ (thenR (foldB f xs s0) kk id) (oZ W cz R) :=
  xg_bind fun s1 h1 o ho E σ H D st q => wS.of (pss_cons (ps_for hp hc piS pgS pssS hs) pssS) (hi E [] [] σ H rfl st _ fun J E' H' lt st' gv =>
    forBZ (N := N) (In := In) (E := E') (R := R) (W := W) (cz := cz) J h1 (st'.wk hw) (fun s e σ' H' s2 => by
        subst e
        exact h s o ho E σ' H' D (lt _ _ _ s2) q)
      (fun r e => by
        subst e
        cases ho
        exact fun σ' H' s2 => q σ' H' (lt _ _ _ s2))
      (fun n s σ' H' hn st2 => gv.go n hn [] [] _ _ _ rfl (hok s) st2) (fun s σ' H' st2 => gv.stop [] [] _ _ _ rfl (hok s) st2)
      (fun n x s σ' H' v H2 hx st2 y P hP => ht x s E' [] [] σ' H2 v rfl (gv.yld n x v H' H2 hx [] [] _ _ rfl (hok s) st2 y) P hP) hb)
end

/-! ### a def that raises, and its calls -/
def SpZ {δ ζ : Type} (pre : δ → List OA) (mz : δ → Option ζ) (post : δ → ζ → Cl) (c : Value) : Sp := fun vs H _ XE' => ∃ (x : δ) (z : ζ) (G : Hp) (F : List Addr), mz x = some z ∧ Frm ⟨G, H, F⟩ G H F ∧ Cs G H ((pre x).map some) (vs.map some) F ∧ vs.length = (pre x).length ∧
  ∀ H', ST ⟨G, H, F⟩ (post x z) (vs.map some) H' → XE' c none H'
section
variable {P : Program} {w : World} {K : PySem.W.Frag} {mg : Str → Option Value} {base : Heap} {δ ζ : Type} {pre : δ → List OA} {mz : δ → Option ζ} {post : δ → ζ → Cl} {c : Value}
theorem fn_okZ {x qual : Str} {st : Stmt} {f : Addr} {fd : FuncData} {N ps : List Str} {k : Nat} (fs : List Bool) (F : Fun K x qual st f fd) (S : FnScope N ps (defScope st)) (hf : fs.length = ps.length) (hp : ∀ x, (pre x).length = ps.length) (hq : ∀ x r, (post x r).length = ps.length)
    (hb : ∀ (x : δ) (vs : List V) (cdv : Value) (A : Around) (outer : List Env) (s : Shared) (H : Hp) (E : XK) (W : WX), vs.length = ps.length → Room k (A.deeper (envOfC qual (defScope st) s.heap.objs.size f cdv)) → Takes (cxOf (L2.CX P w) P w K mg base N qual (defScope st) f cdv A outer s H E) W →
      PassesOwn (model P w) (cxOf (L2.CX P w) P w K mg base N qual (defScope st) f cdv A outer s H E).A (cxOf (L2.CX P w) P w K mg base N qual (defScope st) f cdv A outer s H E).env (cxOf (L2.CX P w) P w K mg base N qual (defScope st) f cdv A outer s H E).xe →
      XG (cxOf (L2.CX P w) P w K mg base N qual (defScope st) f cdv A outer s H E) (defBody st) (pinF fs (pre x) vs ++ List.replicate (N.length - vs.length) none) (mz x) (oZ W c fun z => pinP (post x z) vs ++ List.replicate (N.length - vs.length) none)) :
    FnOk P w K mg base (L2.CX P w) (k + 1) f fd ps (SpZ pre mz post c) := by
  refine F.okX S (fun vs H Q E h => ?_) (fun cdv A outer s H vs Q E hr h => ?_)
  · obtain ⟨x, z, G, F, _, _, _, hl, _⟩ := h
    exact hl.trans (hp x)
  · obtain ⟨x, z, G, F, hm, f, cs, hl, q⟩ := h
    have hv : vs.length = ps.length := hl.trans (hp x)
    refine ⟨_, pssS, hb x vs cdv A outer s H E (fun cls d _ H => E cls d H) hv hr (takes_of rfl rfl rfl rfl) (passes_of rfl) z hm ⟨G, H, F⟩ (L2.start N vs) H _ ⟨G, F, f, start_cs (hf.trans (hp x).symm) cs⟩ fun σ' H' st => q H' ?_⟩
    obtain ⟨G', F', f', c'⟩ := st
    exact ⟨G', F', f', c'.pinP ((hq x z).trans hv.symm)⟩
end
structure CalZ (P : Program) (w : World) (K : PySem.W.Frag) (mg : Str → Option Value) (base : Heap) (k : Nat) (x : Str) (sp : Sp) : Prop where
  ex : ∃ (f : Addr) (fd : FuncData) (ps : List Str), FnOk P w K mg base (L2.CX P w) k f fd ps sp ∧ mg x = some (.ref f) ∧ PySem.W.keepIn K (.ref f) = true ∧ Binds K fd ps []
structure CalMZ (P : Program) (w : World) (K : PySem.W.Frag) (mg : Str → Option Value) (base : Heap) (k : Nat) (C : Addr) (x : Str) (sp : Sp) : Prop where
  ex : ∃ (f : Addr) (fd : FuncData) (ps : List Str), FnOk P w K mg base (L2.CX P w) k f fd ps sp ∧ Meth K C x f ∧ Binds K fd ps []
structure CalCZ (P : Program) (w : World) (K : PySem.W.Frag) (mg : Str → Option Value) (base : Heap) (k : Nat) (C : Addr) (x : Str) (sp : Sp) : Prop where
  ex : ∃ (f : Addr) (fd : FuncData) (ps : List Str), FnOk P w K mg base (L2.CX P w) k f fd ps sp ∧ mg x = some (.ref C) ∧ Mk K C f ∧ Binds K fd ps []
section
variable {X : Cx} {ρ ρ1 ρx : Cl} {e o : Expr} {es : List Expr} {pos p apos : Pos} {A A0 B : OA} {As As0 : List OA} {ls : List (Nat × Nat × V)} {δ ζ : Type} {pre : δ → List OA} {mz : δ → Option ζ} {post : δ → ζ → Cl} {a0 : V} {w w0 : OA → Cl} {C : Addr} {ns : List Str} {x : Str} {xx : δ} {z : ζ} {Po : Cl} {W : WX} {cz : Value}
/-- f(e, ..) raises -/
theorem xz_call {k : Nat} (Q : CalZ X.prog X.w X.K X.mg X.base k x (SpZ pre mz post cz)) (tk : Takes X W) (hr : Room k X.A) (hm : mz xx = some z) (ha : XL X (e :: es) ρ ρ1 (pre xx) ls)
    (hP : (post xx z).length = (pre xx).length) (n1 : (ls.map (·.1)).Nodup) (n2 : (ls.map (·.2.1)).Nodup) (hls : ∀ p ∈ ls, ρ1[p.2.1]? = some none) (ho : backs (post xx z) ls ρ1 = ρx)
    (hg : Gl X x := by rfl) (hdb : (x == ("__debug__" : Str)) = false := by decide) (he : starEach (e :: es) X.env = (false, eval e X.env) :: starEach es X.env := by rfl) (hpl : (backTo pos (starEach es X.env)).any (·.1) = false := by rfl) :
    XZ X (.Call (.Name x p) (e :: es) [] pos) ρ ρx W cz := fun E σ H st kk Q' => by
  subst ho
  obtain ⟨f, fd, ps, F, h1, h2, h3⟩ := Q.ex
  refine wE.of (pe_callS (E := WE W) F hr hg h1 h2 h3 (passAt tk) paS hdb he hpl) (ha E [] [] σ H rfl st _ fun vs H' hl hv st' => ?_)
  obtain ⟨G, F, f, cs⟩ := st'
  obtain ⟨F1, F2, e1, c1, c2⟩ := cs.unappend (by simp [hl])
  subst e1
  refine ⟨xx, z, G, F1, hm, (f.less (List.sublist_append_left _ _)).start, c1, hl, fun H2 st2 => kk H2 ?_⟩
  obtain ⟨G2, F3, f3, c3⟩ := st2
  obtain ⟨f4, keep⟩ := f.step (Fa := F1) (Fr := F2) (.refl _) f3
  have c5 := c3.append (c2.mono f3.gg f3.gh keep)
  obtain ⟨F6, ha2, hb2, c6⟩ := cs_backs (T := []) (t := []) rfl ls (post xx z) ρ1 _ (hP.trans hl.symm) n1 (fun p hp => ⟨(hv p hp).1, (hv p hp).2, hls p hp⟩) n2 c5 f4.nd
  exact ⟨G2, F6, f4.sub ha2 hb2, c6⟩
/-- what a method's raising promise asks, at the place of its instance -/
theorem methZ_core {E : Ent} {σ : L2.St} {H : Hp} {vs : List V} {Q : VK} {XE' : XK} (hl : vs.length = As.length) (st : ST E (As.map some ++ ([] ++ ρ1)) (vs.map some ++ ([] ++ σ)) H) (hv : ∀ p ∈ ls, vs[p.1]? = some p.2.2 ∧ σ[p.2.1]? = some (some p.2.2)) (O : Own ρ1 a0 A0 w)
    (hm : mz xx = some z) (hpre : pre xx = A0 :: As) (hpost : post xx z = some B :: Po) (hP : Po.length = As.length) (n1 : (ls.map (·.1)).Nodup) (n2 : (ls.map (·.2.1)).Nodup) (hls : ∀ p ∈ ls, (w B)[p.2.1]? = some none)
    (kk : ∀ H', ST E (backs Po ls (w B)) σ H' → XE' cz none H') : SpZ pre mz post cz (a0 :: vs) H Q XE' := by
  obtain ⟨G, F, f, cs⟩ := st
  obtain ⟨F1, F2, e1, c1, c2⟩ := cs.unappend (by simp [hl])
  subst e1
  obtain ⟨Fo, Fr, e2, qo, go⟩ := O.get (T := []) (t := []) rfl c2
  have pm : (F1 ++ F2).Perm ((Fo ++ F1) ++ Fr) := by
    refine (List.Perm.append_left F1 e2).trans ?_
    rw [← List.append_assoc]
    exact List.Perm.append_right Fr List.perm_append_comm
  have f1 := f.perm pm
  refine ⟨xx, z, G, Fo ++ F1, hm, (f1.less (List.sublist_append_left _ _)).start, ?_, by rw [hpre]; simp [hl], fun H2 st2 => kk H2 ?_⟩
  · rw [hpre]
    exact ⟨a0, Fo, F1, rfl, rfl, qo, c1⟩
  · obtain ⟨G2, F3, f3, c3⟩ := st2
    rw [hpost] at c3
    obtain ⟨u, FB, FP, e5, e6, qB, c4⟩ := c3
    cases e5
    subst e6
    obtain ⟨f4, keep⟩ := f.step pm f3
    obtain ⟨F', e7, c5⟩ := go f3.gg f3.gh keep qB
    have c6 := c4.append c5
    have pm2 : (FB ++ FP ++ Fr).Perm (FP ++ F') := by
      have q1 : (FB ++ FP ++ Fr).Perm (FP ++ FB ++ Fr) := List.Perm.append_right Fr List.perm_append_comm
      refine q1.trans ?_
      rw [List.append_assoc]
      exact List.Perm.append_left FP e7.symm
    obtain ⟨F6, ha, hb, c7⟩ := cs_backs (T := []) (t := []) rfl ls Po (w B) _ (hP.trans hl.symm) n1 (fun p hp => ⟨(hv p hp).1, (hv p hp).2, hls p hp⟩) n2 c6 ((pm2.nodup_iff).mp f4.nd)
    exact ⟨G2, F6, (f4.perm pm2).sub ha hb, c7⟩
end
section
variable {X : Cx} {CX : CXT} {k : Nat} {f C : Addr} {fd : FuncData} {ps : List Str} {sp : Sp} {E : L2.St → XK} {x m : Str} {p pos apos : Pos} {e o : Expr} {es : List Expr} {ta : TE} {t : TA}
def tMethS (C : Addr) (m : Str) (sp : Sp) (E : L2.St → XK) (ta : TE) (t : TA) : TE := fun σ H Q => ta σ H fun x H1 => ∃ a dx fs, x = .ref a ∧ H1 a = some (.ins C dx fs) ∧ fs.lookup m = none ∧ t σ H1 fun vs H2 => sp (.ref a :: vs) H2 Q (E σ)
/-- o.m(e, ..), where what is raised is wished for at the caller's slots -/
theorem pe_methS {pl : Sem Bool} (he : PE X o ta) (c : Cls X.K C) (hm : Meth X.K C m f) (F : FnOk X.prog X.w X.K X.mg X.base CX k f fd ps sp) (hr : Room k X.A) (hb : Binds X.K fd ps []) (hx : ∀ σ, PassesAt CX X σ (E σ)) (ha : PA X (e :: es) t)
    (hst : starEach (e :: es) X.env = (false, eval e X.env) :: starEach es X.env) (hpl : (backTo pos (starEach es X.env)).any (·.1) = false)
    (ht : eval (.Call (.Attribute o m apos) (e :: es) [] pos) X.env = (do
      let ov ← eval o X.env
      standAt apos.atName
      let (f, first) ← holding [ov] (getMethod ov m pl)
      callWith pos f first (backTo pos (starEach (e :: es) X.env)) (backToKw pos (keywordEach [] X.env)))) :
    PE X (.Call (.Attribute o m apos) (e :: es) [] pos) (tMethS C m sp E ta t) := ⟨fun pins s σ H Q I h =>
  PySem.W.methodCall_KW (pl := pl) (thn (he.run pins s σ H _ I h) fun u s1 ⟨x, H1, I1, rx, a, dx, fs, ex, ea, l, q⟩ => by
    subst ex
    obtain rfl : u = Value.ref a := rx
    exact getmeth_ok I1 ea c hm l (PySem.W.callWith_K (first := [.ref a]) (h₀ := X.base) I.ok.mod.kin hm.kp (thn (ha.run pos pins s1 σ H1 _ I1 q) fun us s2 ⟨vs, H2, I2, r, q2⟩ =>
      ⟨I2.kIn, run_fnS (us := .ref a :: us) (vs := .ref a :: vs) F hr hb (hx σ) I2 (.cons rfl r) q2⟩) hst hpl)) ht⟩
def tMakeS (C : Addr) (sp : Sp) (E : L2.St → XK) (t : TA) : TE := fun σ H Q => t σ H fun vs H1 => ∀ z dx, H1 z = none → H1 dx = none → dx ≠ z → sp (.ref z :: vs) (upd (upd H1 dx (.own z)) z (.ins C dx [])) (fun v H2 => v = .non ∧ Q (.ref z) H2) (E σ)
theorem run_makeS {pins : List (Addr × Obj)} {σ : L2.St} {H : Hp} {s : Shared} {Q : VK} {us : List Value} {vs : List V} (M : Mk X.K C f) (F : FnOk X.prog X.w X.K X.mg X.base CX k f fd ps sp) (hr : Room (k + 1) X.A) (hb : Binds X.K fd ps []) (hx : PassesAt CX X σ (E σ)) (I : Inv X pins σ H s) (r : Vals vs us)
    (h : ∀ z dx, H z = none → H dx = none → dx ≠ z → sp (.ref z :: vs) (upd (upd H dx (.own z)) z (.ins C dx [])) (fun v H2 => v = .non ∧ Q (.ref z) H2) (E σ)) :
    wpAny (model X.prog X.w) X.A (call (.ref C) us) (EP X pins σ Q) X.xe s := by
  have J := Inv.made (C := C) I
  have q0 := h (s.heap.objs.size + 1) s.heap.objs.size (I.hok.fresh (Nat.le_succ s.heap.objs.size)) (I.hok.fresh (Nat.le_refl s.heap.objs.size)) (Nat.ne_of_lt (Nat.lt_succ_self s.heap.objs.size))
  have rr : Vals (V.ref (s.heap.objs.size + 1) :: vs) (Value.ref (s.heap.objs.size + 1) :: us) := .cons rfl r
  have ln : (Value.ref (s.heap.objs.size + 1) :: us).length = ps.length := rr.length.symm.trans (F.len _ _ _ _ q0)
  have bd := hb _ (Value.ref (s.heap.objs.size + 1) :: us) J.kIn (by rw [List.append_nil]; exact ln)
  rw [List.append_nil] at bd
  refine wpAny_call (make_map (f := f) I.kIn M.makes M.init (beq_iff_eq.mp M.fn) (codeAny_mono (F.run _ X.stack _ _ ⟨_, []⟩ _ _ _ (E σ) (hr.make C us []) (J.env0.make C us []) bd rr q0) fun a s' qa => ?_))
  match a, qa with
  | .error e, qa => exact hx pins _ _ e s' J qa
  | .ok (.ret u), qa =>
    obtain ⟨v, H', I3, rv, ev, q3⟩ := J.after qa
    subst ev
    exact ⟨rv, V.ref (s.heap.objs.size + 1), H', I3, rfl, q3⟩
  | .ok .next, qa => exact False.elim qa
  | .ok .brk, qa => exact False.elim qa
  | .ok .cont, qa => exact False.elim qa
/-- C(e, ..), likewise -/
theorem pe_makeS (M : Mk X.K C f) (F : FnOk X.prog X.w X.K X.mg X.base CX k f fd ps sp) (hr : Room (k + 1) X.A) (hg : Gl X x) (hm : X.mg x = some (.ref C)) (hb : Binds X.K fd ps []) (hx : ∀ σ, PassesAt CX X σ (E σ))
    (ha : PA X (e :: es) t) (hdb : (x == ("__debug__" : Str)) = false) (he : starEach (e :: es) X.env = (false, eval e X.env) :: starEach es X.env) (hpl : (backTo pos (starEach es X.env)).any (·.1) = false) :
    PE X (.Call (.Name x p) (e :: es) [] pos) (tMakeS C sp E t) := ⟨fun pins s σ H Q I h =>
  wpAny_Call_Name_kw (ld_glob I hg hm (PySem.W.callWith_K (h₀ := X.base) I.ok.mod.kin M.kp (thn (ha.run pos pins s σ H _ I h) fun us s1 ⟨vs, H1, I1, r, q⟩ => ⟨I1.kIn, run_makeS M F hr hb (hx σ) I1 r q⟩) he hpl) hdb)⟩
end
section
variable {X : Cx} {ρ ρ1 ρx : Cl} {e o : Expr} {es : List Expr} {pos p apos : Pos} {A A0 B : OA} {As As0 : List OA} {ls : List (Nat × Nat × V)} {δ ζ : Type} {pre : δ → List OA} {mz : δ → Option ζ} {post : δ → ζ → Cl} {a0 : V} {w w0 : OA → Cl} {C : Addr} {ns : List Str} {x : Str} {xx : δ} {z : ζ} {Po : Cl} {W : WX} {cz : Value}
/-- o.m(e, ..) raises -/
theorem xz_meth {k : Nat} {pl : Sem Bool} (M : CalMZ X.prog X.w X.K X.mg X.base k C x (SpZ pre mz post cz)) (tk : Takes X W) (cl : Cls X.K C) (hn : x ∉ ns) (hr : Room k X.A) (hm : mz xx = some z) (ho : XE X o ρ ρ (aV a0)) (O0 : Own ρ a0 (aObj C ns As0) w0) (ha : XL X (e :: es) ρ ρ1 As ls) (O : Own ρ1 a0 A0 w)
    (hpre : pre xx = A0 :: As) (hpost : post xx z = some B :: Po) (hP : Po.length = As.length) (n1 : (ls.map (·.1)).Nodup) (n2 : (ls.map (·.2.1)).Nodup) (hls : ∀ p ∈ ls, (w B)[p.2.1]? = some none) (hb : backs Po ls (w B) = ρx)
    (hst : starEach (e :: es) X.env = (false, eval e X.env) :: starEach es X.env := by rfl) (hpl : (backTo pos (starEach es X.env)).any (·.1) = false := by rfl)
    (ht : eval (.Call (.Attribute o x apos) (e :: es) [] pos) X.env = (do
      let ov ← eval o X.env
      standAt apos.atName
      let (f, first) ← holding [ov] (getMethod ov x pl)
      callWith pos f first (backTo pos (starEach (e :: es) X.env)) (backToKw pos (keywordEach [] X.env))) := by rfl) :
    XZ X (.Call (.Attribute o x apos) (e :: es) [] pos) ρ ρx W cz := fun E σ H st kk Q' => by
  subst hb
  obtain ⟨f, fd, ps, F, h1, h2⟩ := M.ex
  refine wE.of (pe_methS (E := WE W) peS cl h1 F hr h2 (passAt tk) paS hst hpl ht) (ho E [] [] σ H rfl st _ fun u H1 st1 => ?_)
  obtain ⟨G, Fa, Fv, fr, cs, e0, _⟩ := ST.one st1
  subst e0
  obtain ⟨F1, F2, e1, ⟨p, dx, vs, F', e2, e3, h3, hl, c1⟩, go⟩ := O0.get (T := []) (t := []) rfl cs
  refine ⟨p, dx, _, e2, h3, lookup_no hn, ha E [] [] σ H1 rfl (ST.pop st1) _ fun vs H2 hl hv st2 => ?_⟩
  rw [← e2]
  exact methZ_core hl st2 hv O hm hpre hpost hP n1 n2 hls kk
/-- C(e, ..) raises -/
theorem xz_make {k : Nat} (M : CalCZ X.prog X.w X.K X.mg X.base k C x (SpZ pre mz post cz)) (tk : Takes X W) (hr : Room (k + 1) X.A) (hm : mz xx = some z) (ha : XL X (e :: es) ρ ρ1 As ls)
    (hpre : pre xx = aObj C [] [] :: As) (hpost : post xx z = none :: Po) (hP : Po.length = As.length) (n1 : (ls.map (·.1)).Nodup) (n2 : (ls.map (·.2.1)).Nodup) (hls : ∀ p ∈ ls, ρ1[p.2.1]? = some none) (hb : backs Po ls ρ1 = ρx)
    (hg : Gl X x := by rfl) (hdb : (x == ("__debug__" : Str)) = false := by decide) (he : starEach (e :: es) X.env = (false, eval e X.env) :: starEach es X.env := by rfl) (hpl : (backTo pos (starEach es X.env)).any (·.1) = false := by rfl) :
    XZ X (.Call (.Name x p) (e :: es) [] pos) ρ ρx W cz := fun E σ H st kk Q' => by
  subst hb
  obtain ⟨f, fd, ps, F, h1, h2, h3⟩ := M.ex
  refine wE.of (pe_makeS (E := WE W) h2 F hr hg h1 h3 (passAt tk) paS hdb he hpl) (ha E [] [] σ H rfl st _ fun vs H1 hl hv st1 y dx ny ndx ne => ?_)
  obtain ⟨G, F, f, cs⟩ := st1
  have fm := Frm.made (o := .ins C dx []) (o' := .own y) f.gh ny ndx ne
  obtain ⟨f0, keep0⟩ := f.step (Fa := []) (Fr := F) (.refl _) fm
  have c0 := cs.mono (.refl _) f0.gh keep0
  obtain ⟨F1, F2, e1, c1, c2⟩ := c0.unappend (by simp [hl])
  subst e1
  have f0 : Frm E G (upd (upd H1 dx (.own y)) y (.ins C dx [])) ((y :: F1) ++ F2) := f0
  refine ⟨xx, z, G, y :: F1, hm, (f0.less (List.sublist_append_left _ _)).start, ?_, by rw [hpre]; simp [hl], fun H2 st2 => kk H2 ?_⟩
  · rw [hpre]
    exact ⟨.ref y, [y], F1, rfl, rfl, ⟨y, dx, [], [], rfl, rfl, upd_same, rfl, rfl⟩, c1⟩
  · obtain ⟨G2, F3, f3, c3⟩ := st2
    rw [hpost] at c3
    have c4 : Cs G2 H2 Po (vs.map some) F3 := c3
    obtain ⟨f4, keep⟩ := f0.step (Fa := y :: F1) (Fr := F2) (.refl _) f3
    have c5 := c4.append (c2.mono f3.gg f3.gh keep)
    obtain ⟨F6, ha2, hb2, c7⟩ := cs_backs (T := []) (t := []) rfl ls Po ρ1 _ (hP.trans hl.symm) n1 (fun p hp => ⟨(hv p hp).1, (hv p hp).2, hls p hp⟩) n2 c5 f4.nd
    exact ⟨G2, F6, f4.sub ha2 hb2, c7⟩
end

/-! ### try .. except -/
/-- what raises goes to the suite, what goes on to the rest -/
def tryM {ζ β ω : Type} (mz : Option ζ) (m : Option β) (ks : ζ → Option ω) (k : β → Option ω) : Option ω := match mz with
  | some z => ks z
  | none => m.bind k
section
variable {X : Cx} {ζ β γ : Type} {body suite rest : List Stmt} {b₀ : Stmt} {ρ : Cl} {ρz : ζ → Cl} {N : β → Cl} {R : γ → Cl} {mz : Option ζ} {ks : ζ → Option γ} {x n : Str} {c cz : Value} {np pos pos' : Pos}
theorem ST.putV {E : Ent} {σ : L2.St} {H : Hp} {v : V} (h : ST E ρ σ H) : ST E (some (aV v) :: ρ) (some v :: σ) H := by
  obtain ⟨G, F, f, cs⟩ := h
  exact ⟨G, F, f, v, [], F, rfl, rfl, ⟨rfl, rfl⟩, cs⟩
/-- try: body except c as n: (it returns) -/
theorem xg_tryAs (i : Nat) {m : Option β} {k : β → Option γ} (hs : X.stack = X.env :: X.outer) (hf : X.env.frame = some X.env.locals) (hN : X.N.Nodup) (hi : X.N[i]? = some n) (hln : X.env.kindOf n = some .local) (hc : Names X x c) (he : PySem.W.exmOne X.K cz c = some true) (hil : ∀ z, i < (ρz z).length)
    (hz : ∀ (W : WX) (pn : List (Addr × Obj)) (xe : Value → Shared → Prop), Takes (X.tr pn xe) W → PassesOwn (model X.prog X.w) X.A X.env xe → XG (X.tr pn xe) body ρ mz (oZ W cz ρz))
    (hb : ∀ (W : WX) (pn : List (Addr × Obj)) (xe : Value → Shared → Prop), Takes (X.tr pn xe) W → PassesOwn (model X.prog X.w) X.A X.env xe → XG (X.tr pn xe) body ρ m (oS N))
    (hsu : ∀ (z : ζ) (a : Addr) (oe : Obj) (pn : List (Addr × Obj)), Zc cz none oe → (∃ vs, oe.data = .fields vs) → XG (X.suite a ((a, oe) :: pn)) (b₀ :: suite) ((ρz z).set i (some (aV (.ref a)))) (ks z) (oR R))
    (h : ∀ s, XG X rest (N s) (k s) (oR R)) :
    XG X (.Try body [.ExceptHandler (some (.Name x np)) (some n) (b₀ :: suite) pos'] [] [] pos :: rest) ρ (tryM mz m ks k) (oR R) := fun o ho E σ H D st q => by
  refine wS.of (pss_cons (ps_try_as (i := i) (tb := fun W D σ H => ∀ pn xe, Takes (X.tr pn xe) W → PassesOwn (model X.prog X.w) X.A X.env xe → wS (X.tr pn xe) body D σ H) (ts := fun a cls d D σ H => ∀ oe pn, Zc cls d oe → (∃ vs, oe.data = .fields vs) → wS (X.suite a ((a, oe) :: pn)) (b₀ :: suite) D σ H)
    hs hf hN hi hln hc takes0 (fun W pn xe tk pw => ⟨fun pins s σ H D I h => h pn xe tk pw pins s I⟩) (fun a oe cls d pn h1 h2 => ⟨fun pins s σ H D I h => h oe pn h1 h2 pins s I⟩)) pssS) fun pn xe tk pw => ?_
  cases hm : mz with
  | some z =>
    rw [hm] at ho
    refine hz _ pn xe tk pw z hm E σ H _ st fun σ' H' st1 => ⟨true, he, fun _ a na oe pn2 h1 h2 => ?_, fun e => nomatch e⟩
    exact hsu z a oe pn2 h1 h2 o ho E _ H' _ (ST.assign (ST.putV st1) (hil z)) q
  | none =>
    rw [hm] at ho
    cases hm2 : m with
    | none => rw [hm2] at ho; cases ho
    | some s =>
      rw [hm2] at ho
      exact hb _ pn xe tk pw s hm2 E σ H _ st fun σ' H' st2 => h s o ho E σ' H' D st2 q
/-- .. the body returns where it does not raise -/
theorem xg_tryAsR (i : Nat) {m : Option γ} (hs : X.stack = X.env :: X.outer) (hf : X.env.frame = some X.env.locals) (hN : X.N.Nodup) (hi : X.N[i]? = some n) (hln : X.env.kindOf n = some .local) (hc : Names X x c) (he : PySem.W.exmOne X.K cz c = some true) (hil : ∀ z, i < (ρz z).length)
    (hz : ∀ (W : WX) (pn : List (Addr × Obj)) (xe : Value → Shared → Prop), Takes (X.tr pn xe) W → PassesOwn (model X.prog X.w) X.A X.env xe → XG (X.tr pn xe) body ρ mz (oZ W cz ρz))
    (hb : ∀ (W : WX) (pn : List (Addr × Obj)) (xe : Value → Shared → Prop), Takes (X.tr pn xe) W → PassesOwn (model X.prog X.w) X.A X.env xe → XG (X.tr pn xe) body ρ m (oR R))
    (hsu : ∀ (z : ζ) (a : Addr) (oe : Obj) (pn : List (Addr × Obj)), Zc cz none oe → (∃ vs, oe.data = .fields vs) → XG (X.suite a ((a, oe) :: pn)) (b₀ :: suite) ((ρz z).set i (some (aV (.ref a)))) (ks z) (oR R)) :
    XG X (.Try body [.ExceptHandler (some (.Name x np)) (some n) (b₀ :: suite) pos'] [] [] pos :: rest) ρ (tryM mz m ks some) (oR R) := fun o ho E σ H D st q => by
  refine wS.of (pss_cons (ps_try_as (i := i) (tb := fun W D σ H => ∀ pn xe, Takes (X.tr pn xe) W → PassesOwn (model X.prog X.w) X.A X.env xe → wS (X.tr pn xe) body D σ H) (ts := fun a cls d D σ H => ∀ oe pn, Zc cls d oe → (∃ vs, oe.data = .fields vs) → wS (X.suite a ((a, oe) :: pn)) (b₀ :: suite) D σ H)
    hs hf hN hi hln hc takes0 (fun W pn xe tk pw => ⟨fun pins s σ H D I h => h pn xe tk pw pins s I⟩) (fun a oe cls d pn h1 h2 => ⟨fun pins s σ H D I h => h oe pn h1 h2 pins s I⟩)) pssS) fun pn xe tk pw => ?_
  cases hm : mz with
  | some z =>
    rw [hm] at ho
    refine hz _ pn xe tk pw z hm E σ H _ st fun σ' H' st1 => ⟨true, he, fun _ a na oe pn2 h1 h2 => ?_, fun e => nomatch e⟩
    exact hsu z a oe pn2 h1 h2 o ho E _ H' _ (ST.assign (ST.putV st1) (hil z)) q
  | none =>
    rw [hm] at ho
    cases hm2 : m with
    | none => rw [hm2] at ho; cases ho
    | some s =>
      rw [hm2] at ho
      cases ho
      exact hb _ pn xe tk pw _ hm2 E σ H _ st q
/-- try: body except c: (it returns) -/
theorem xg_tryOnly {m : Option β} {k : β → Option γ} (hs : X.stack = X.env :: X.outer) (hf : X.env.frame = some X.env.locals) (hc : Names X x c) (he : PySem.W.exmOne X.K cz c = some true)
    (hz : ∀ (W : WX) (pn : List (Addr × Obj)) (xe : Value → Shared → Prop), Takes (X.tr pn xe) W → PassesOwn (model X.prog X.w) X.A X.env xe → XG (X.tr pn xe) body ρ mz (oZ W cz ρz))
    (hb : ∀ (W : WX) (pn : List (Addr × Obj)) (xe : Value → Shared → Prop), Takes (X.tr pn xe) W → PassesOwn (model X.prog X.w) X.A X.env xe → XG (X.tr pn xe) body ρ m (oS N))
    (hsu : ∀ (z : ζ) (a : Addr) (oe : Obj) (pn : List (Addr × Obj)), Zc cz none oe → (∃ vs, oe.data = .fields vs) → XG (X.suite a ((a, oe) :: pn)) (b₀ :: suite) (ρz z) (ks z) (oR R))
    (h : ∀ s, XG X rest (N s) (k s) (oR R)) :
    XG X (.Try body [.ExceptHandler (some (.Name x np)) none (b₀ :: suite) pos'] [] [] pos :: rest) ρ (tryM mz m ks k) (oR R) := fun o ho E σ H D st q => by
  refine wS.of (pss_cons (ps_try_only (tb := fun W D σ H => ∀ pn xe, Takes (X.tr pn xe) W → PassesOwn (model X.prog X.w) X.A X.env xe → wS (X.tr pn xe) body D σ H) (ts := fun a cls d D σ H => ∀ oe pn, Zc cls d oe → (∃ vs, oe.data = .fields vs) → wS (X.suite a ((a, oe) :: pn)) (b₀ :: suite) D σ H)
    hs hf hc takes0 (fun W pn xe tk pw => ⟨fun pins s σ H D I h => h pn xe tk pw pins s I⟩) (fun a oe cls d pn h1 h2 => ⟨fun pins s σ H D I h => h oe pn h1 h2 pins s I⟩)) pssS) fun pn xe tk pw => ?_
  cases hm : mz with
  | some z =>
    rw [hm] at ho
    refine hz _ pn xe tk pw z hm E σ H _ st fun σ' H' st1 => ⟨true, he, fun _ a na oe pn2 h1 h2 => ?_, fun e => nomatch e⟩
    exact hsu z a oe pn2 h1 h2 o ho E _ H' _ st1 q
  | none =>
    rw [hm] at ho
    cases hm2 : m with
    | none => rw [hm2] at ho; cases ho
    | some s =>
      rw [hm2] at ho
      exact hb _ pn xe tk pw s hm2 E σ H _ st fun σ' H' st2 => h s o ho E σ' H' D st2 q
end
/-! isinstance(n, D), n the caught error of the class C -/
section
variable {X : Cx} {ρ : Cl} {a : Addr} {oe : Obj} {pn : List (Addr × Obj)} {C D : Addr} {xn xd : Str} {k : Bool} {p p1 p2 pos : Pos}
theorem kit_one {K : PySem.W.Frag} {t C : Addr} {k : Bool} (hd : PySem.W.hasDictIn K C = true) (ht : PySem.W.typeIn K (.ref C) = some (.type "type")) (hs : PySem.W.subIn K (.ref t) (.ref C) = some k) (hr : PySem.W.subIn K (.ref C) (.ref C) = some true) : PySem.W.kitOne K (.ref t) (.ref C) = some k := by
  obtain ⟨cd, hc, _⟩ := PySem.W.any_some hd
  have e2 : ((PySem.W.clsIn K C).isSome && PySem.W.typeIn K (.ref C) == some (.type "type")) = true := by rw [hc, ht] <;> rfl
  unfold PySem.W.kitOne
  by_cases e : (Value.ref t == Value.ref C) = true
  · rw [if_pos e]
    have : t = C := Value.ref.inj (beq_iff_eq.mp e)
    subst this
    rw [hr] at hs
    exact hs
  · rw [if_neg e]
    show (if ((PySem.W.clsIn K C).isSome && PySem.W.typeIn K (.ref C) == some (.type "type")) = true then PySem.W.subIn K (.ref t) (.ref C) else none) = some k
    rw [if_pos e2]
    exact hs
theorem xe_isE (i : Nat) (Ec : ExcC X.K C) (hz : Zc (.ref C) none oe) (hfl : ∃ vs, oe.data = .fields vs) (T : ExK X.K X.mg xd D) (hk : PySem.W.kitOne X.K (.ref C) (.ref D) = some k) (hm : X.mg "isinstance" = none)
    (ha : XE (X.suite a ((a, oe) :: pn)) (.Name xn p1) ρ ρ (aV (.ref a))) (hg : Gl (X.suite a ((a, oe) :: pn)) xd := by rfl) (hgi : Gl (X.suite a ((a, oe) :: pn)) "isinstance" := by rfl) (hdb : (xd == ("__debug__" : Str)) = false := by decide)
    (hs : starEach [.Name xn p1, .Name xd p2] X.env = (false, eval (.Name xn p1) X.env) :: starEach [.Name xd p2] X.env := by rfl) (hs2 : starEach [.Name xd p2] X.env = [(false, eval (.Name xd p2) X.env)] := by rfl) (hpl : (backTo pos (starEach [.Name xd p2] X.env)).any (·.1) = false := by rfl) :
    XE (X.suite a ((a, oe) :: pn)) (.Call (.Name "isinstance" p) [.Name xn p1, .Name xd p2] [] pos) ρ ρ (aD X.K (.bool k)) :=
  xe_callB (X := X.suite a ((a, oe) :: pn)) (call_isE Ec hz hfl) (xa_cons ha (xa_cons (A := aV (.ref D)) (fun E T' t σ H l st Q kk => by
      obtain ⟨G, F, f, cs⟩ := st
      exact wE.of (pe_glob (v := .ref D) hg T.g rfl hdb) (kk (.ref D) H ⟨G, F, f, .ref D, [], F, rfl, rfl, ⟨rfl, rfl⟩, cs⟩)) xa_nil hs2) hs) (fun E T' t σ vs H Q l hl st kk => by
    obtain ⟨v, w, rfl⟩ := vs2 hl
    obtain ⟨G, F, f, c⟩ := st
    obtain ⟨v', F1, F2, e1, e2, ⟨q1, _⟩, w', F3, F4, e3, e4, ⟨q2, _⟩, c⟩ := c
    cases e1
    cases e3
    subst q1 q2 e2 e4
    exact ⟨.ref D, .ref D, k, rfl, fun u r => r, hk, kk _ H (ST.put (f.less ((List.sublist_append_right _ _).trans (List.sublist_append_right _ _))) c (.bl _))⟩) hm (by decide +kernel) hgi (by decide) (by decide) hs hpl
end
section
variable {X : Cx} {ρ ρ1 ρ2 : Cl} {a b : Expr} {pos : Pos} {k1 k2 : Bool}
theorem xk_isBl (ha : XE X a ρ ρ1 (aD X.K (.bool k1))) (hb : XE X b ρ1 ρ2 (aD X.K (.bool k2))) : XKm X (.Compare a [.Is] [b] pos) ρ ρ2 (decide (k1 = k2)) :=
  ⟨_, pe_cmpR op_is_bl peS peS (nomark _), pt_cmpR op_is_bl peS peS (nomark _), fun E T t σ H l st Q kk => ha E T t σ H l st _ fun x H1 st1 => hb E (_ :: T) (_ :: t) σ H1 (by simp [l]) st1 _ fun y H2 st2 => by
    obtain ⟨G, F, f, cs, q1, q2⟩ := ST.top2 st2
    cases q1
    cases q2
    exact ⟨k1, k2, rfl, rfl, kk _ H2 (ST.put f cs (.bl _))⟩⟩
theorem xk_notBl (ha : XE X a ρ ρ1 (aD X.K (.bool k1))) (hb : XE X b ρ1 ρ2 (aD X.K (.bool k2))) : XKm X (.Compare a [.IsNot] [b] pos) ρ ρ2 (!decide (k1 = k2)) :=
  ⟨_, pe_cmpR op_isnot_bl peS peS (nomark _), pt_cmpR op_isnot_bl peS peS (nomark _), fun E T t σ H l st Q kk => ha E T t σ H l st _ fun x H1 st1 => hb E (_ :: T) (_ :: t) σ H1 (by simp [l]) st1 _ fun y H2 st2 => by
    obtain ⟨G, F, f, cs, q1, q2⟩ := ST.top2 st2
    cases q1
    cases q2
    exact ⟨k1, k2, rfl, rfl, kk _ H2 (ST.put f cs (.bl _))⟩⟩
end
end Mr

set_option Elab.async false
set_option linter.all false
set_option maxRecDepth 100000
/-! lists of owned lists: an item's value is named, read -/
namespace Mr
open PySem PySem.Spec PyProof.Rows L2
section
variable {X : Cx} {ω : Type} {sts : List Stmt} {m : Option ω} {Φ : ω → Ent → Ends → Prop} {ρ ρ1 ρ2 : Cl} {A B : OA} {a b : Expr} {pos : Pos} {As : List OA} {u v0 a0 : V}
theorem xg_pini (i k : Nat) (h : ρ[i]? = some (some (pin a0 (aL As)))) (hk : As[k]? = some A) (kk : ∀ v, XG X sts (ρ.set i (some (pin a0 (aL (As.set k (pin v A)))))) m Φ) : XG X sts ρ m Φ := fun r hr E σ H D st q => by
  obtain ⟨G, F, f, c⟩ := st
  obtain ⟨F1, F2, e1, ⟨p, vs, F', e2, e3, h1, c1⟩, go⟩ := (Own.slot i h).get (T := []) (t := []) rfl c
  subst e2 e3
  obtain ⟨v, Fa, Fb, ev, e4, hq, c2⟩ := c1.getP hk
  obtain ⟨F3, a3, c4⟩ := c2.join (A := pin v A) (v := v) (F1 := Fa) (by rw [List.length_map]; exact lt_of_get hk) ⟨rfl, hq⟩
  have e6 : (vs.map some).set k (some v) = vs.map some := set_get (by rw [List.getElem?_map, ev]; rfl)
  rw [e6] at c4
  have c4 : Cs G H ((As.set k (pin v A)).map some) (vs.map some) F3 := by simpa [List.map_set] using c4
  obtain ⟨F5, a5, c5⟩ := go (.refl _) f.gh (fun b _ o q => q) (B := aL (As.set k (pin v A))) (F1' := p :: F3) ⟨p, vs, F3, rfl, rfl, h1, c4⟩
  refine kk v r hr E σ H D ⟨G, F5, f.perm ?_, c5⟩ q
  exact e1.trans (List.Perm.trans (List.Perm.append_right F2 (List.Perm.cons p (e4.trans a3.symm))) a5.symm)
/-- w[n], the item is owned -/
theorem xe_ixV (i : Nat) {j : Nat} {n : Int} (ha : XE X a ρ ρ1 (aV v0)) (hb : XE X b ρ1 ρ2 (aD X.K (.int n))) (hp : ρ2[i]? = some (some (pin v0 (aL As)))) (hn : ixN As.length n = some j) (h : As[j]? = some (pin u A)) (hs : PlainIx b := by exact fun _ _ => rfl) :
    XE X (.Subscript a b pos) ρ ρ2 (aV u) := fun E T t σ H l st Q k =>
  wE.of (pe_ix ix_list peS peS hs) (ha E T t σ H l st _ fun x H1 st1 => hb E (_ :: T) (_ :: t) σ H1 (by simp [l]) st1 _ fun y H2 st2 => by
    obtain ⟨G, F, Fv, Fw, f, cs, ⟨q1, _⟩, q2, _⟩ := ST.two st2
    cases q2
    obtain ⟨v, F1, F2, e1, e2, ⟨e3, p, vs, F', e4, e5, h1, c1⟩, c2⟩ := cs.slot l hp
    subst q1 e3 e4
    obtain ⟨w, Fa, Fb, hw, _, ⟨e7, _⟩, _⟩ := c1.getP h
    subst e7
    have hl : vs.length = As.length := by simpa using c1.len.symm
    exact ⟨p, vs, n, w, rfl, rfl, .inl (.inl h1), by unfold atI; rw [hl, hn]; exact hw, k w H2 ⟨G, F, f, w, [], F, rfl, rfl, ⟨rfl, rfl⟩, cs⟩⟩)
end
theorem DqAll.reverse {K : PySem.W.Frag} {G : Hp} : ∀ {ds : List PyData} {vs : List V}, DqAll K G vs ds → DqAll K G vs.reverse ds.reverse
  | _, _, .nil => .nil
  | _, _, .cons h t => by
    rw [List.reverse_cons, List.reverse_cons]
    exact t.reverse.append (.cons h .nil)
section
variable {X : Cx} {ρ ρ1 : Cl} {A : OA} {a : Expr} {α : Type} [Cd α]
/-- xs[::-1] -/
theorem xc_rev {xs : List α} {k : Nat} {p1 p2 p3 pos : Pos} (ha : XE X a ρ ρ1 A) (r : Rls X.K ρ1 A (xs.map Cd.d)) : XE X (.Subscript a (.Slice none none (some (.UnaryOp .USub (.Constant (.int 1) k p1) p2)) p3) pos) ρ ρ1 (aLD X.K (xs.reverse.map Cd.d)) := fun E T t σ H l st Q kk =>
  wE.of (pe_revL peS) (ha E T t σ H l st _ fun x H1 st1 => by
    obtain ⟨G, F, Fv, f, cs, q⟩ := ST.one st1
    obtain ⟨p, ys, e1, e2, e3⟩ := r l cs f.gh q
    refine ⟨p, ys, e1, e2, fun p' hp => kk _ _ ?_⟩
    have := ST.newL f cs hp e3.reverse
    rw [← List.map_reverse] at this
    exact this)
end
section
variable {X : Cx} {ρ ρ1 : Cl} {e : Expr} {n : Int}
theorem xo_some (h : XE X e ρ ρ1 (aD X.K (.int n))) : XO X (some e) ρ ρ1 (some n) := h
theorem xo_none : XO X none ρ ρ none := (rfl : ρ = ρ)
end
end Mr

set_option Elab.async false
set_option linter.all false
set_option maxRecDepth 100000
/-! zip, targets of a list, tuples of five and six -/
namespace Mr
open PySem PySem.Spec PyProof.Rows L2
structure T5 (α β γ δ ε : Type) where
  a : α
  b : β
  c : γ
  d : δ
  e : ε
  deriving DecidableEq
structure T6 (α β γ δ ε ζ : Type) where
  a : α
  b : β
  c : γ
  d : δ
  e : ε
  f : ζ
  deriving DecidableEq
section
variable {α β γ δ ε ζ : Type} [Cd α] [Cd β] [Cd γ] [Cd δ] [Cd ε] [Cd ζ]
instance : Cd (T5 α β γ δ ε) := ⟨fun p => .tuple [Cd.d p.a, Cd.d p.b, Cd.d p.c, Cd.d p.d, Cd.d p.e], max (Cd.dep α) (max (Cd.dep β) (max (Cd.dep γ) (max (Cd.dep δ) (Cd.dep ε)))) + 1, fun p => by simp [PyData.canLay0, PyData.canLayAll0, Cd.can], fun p => by
  have h1 := Cd.hdep p.a
  have h2 := Cd.hdep p.b
  have h3 := Cd.hdep p.c
  have h4 := Cd.hdep p.d
  have h5 := Cd.hdep p.e
  simp only [PyData.depth, PyData.depthAll]
  omega⟩
instance : Cd (T6 α β γ δ ε ζ) := ⟨fun p => .tuple [Cd.d p.a, Cd.d p.b, Cd.d p.c, Cd.d p.d, Cd.d p.e, Cd.d p.f], max (Cd.dep α) (max (Cd.dep β) (max (Cd.dep γ) (max (Cd.dep δ) (max (Cd.dep ε) (Cd.dep ζ))))) + 1, fun p => by simp [PyData.canLay0, PyData.canLayAll0, Cd.can], fun p => by
  have h1 := Cd.hdep p.a
  have h2 := Cd.hdep p.b
  have h3 := Cd.hdep p.c
  have h4 := Cd.hdep p.d
  have h5 := Cd.hdep p.e
  have h6 := Cd.hdep p.f
  simp only [PyData.depth, PyData.depthAll]
  omega⟩
instance : Cn (T5 α β γ δ ε) := ⟨fun _ => rfl⟩
instance : Cn (T6 α β γ δ ε ζ) := ⟨fun _ => rfl⟩
variable [DecidableEq α] [DecidableEq β] [DecidableEq γ] [DecidableEq δ] [DecidableEq ε] [DecidableEq ζ] [Ce α] [Ce β] [Ce γ] [Ce δ] [Ce ε] [Ce ζ]
instance : Ce (T5 α β γ δ ε) := ⟨fun x y => by
  show PyData.eqv (.tuple _) (.tuple _) = _
  obtain ⟨x1, x2, x3, x4, x5⟩ := x
  obtain ⟨y1, y2, y3, y4, y5⟩ := y
  simp [PyData.eqv, PyData.eqvAll, Ce.eqv, T5.mk.injEq]⟩
instance : Ce (T6 α β γ δ ε ζ) := ⟨fun x y => by
  show PyData.eqv (.tuple _) (.tuple _) = _
  obtain ⟨x1, x2, x3, x4, x5, x6⟩ := x
  obtain ⟨y1, y2, y3, y4, y5, y6⟩ := y
  simp [PyData.eqv, PyData.eqvAll, Ce.eqv, T6.mk.injEq]⟩
end
/-! a, b, .. = a list -/
theorem ST.unlst {E : Ent} {K : PySem.W.Frag} {L : Cl} {C : L2.St} {H : Hp} {v : V} {ds : List PyData} (st : ST E (some (aD K (.list ds)) :: L) (some v :: C) H) : ∃ a vs, v = .ref a ∧ SqL K H a vs ∧ vs.length = ds.length ∧ ST E ((ds.map (aD K)).map some ++ L) (vs.map some ++ C) H := by
  obtain ⟨G, F, f, c, q⟩ := ST.top st
  cases q with
  | lst h1 h2 => exact ⟨_, _, rfl, .inl (.inl (f.gh _ _ h1)), h2.len, G, F, f, by simpa using (csD' h2).append c⟩
section
variable {X : Cx} {ρ ρ1 ρ2 : Cl} {a b : Expr} {pos p tpos : Pos} {ds : List PyData} {α β : Type} [Cd α] [Cd β]
theorem xp_lst {ts : List Expr} {k : Nat} (hc : X.calm = true) (h : XPs X ts ds ρ ρ1) (hn : (assignEach ts X.env).length = ds.length := by rfl) (hst : (assignEach ts X.env).findIdx? (·.1) = none := by rfl) : XP X (.Tuple ts k pos) (aD X.K (.list ds)) ρ ρ1 := fun E T t σ H v l st Q kk => by
  obtain ⟨a, vs, e1, h1, h2, st2⟩ := st.unlst
  exact wG.of (pg_lst hc pgsS hn hst) ⟨a, vs, e1, h1, h2, h E T t σ H vs l h2 st2 Q kk⟩
def toL3 {β : Type} : List β → Option (T3 β β β)
  | [a, b, c] => some ⟨a, b, c⟩
  | _ => none
theorem xe_toL3 {xs : List α} {t : T3 α α α} (h : XE X a ρ ρ1 (aD X.K (Cd.d xs))) (e : toL3 xs = some t) : XE X a ρ ρ1 (aD X.K (.list [Cd.d t.a, Cd.d t.b, Cd.d t.c])) := by
  match xs, e with
  | [_, _, _], e => cases e; exact h
theorem xe_toL4 {xs : List α} {t : T4 α α α α} (h : XE X a ρ ρ1 (aD X.K (Cd.d xs))) (e : toT4 xs = some t) : XE X a ρ ρ1 (aD X.K (.list [Cd.d t.a, Cd.d t.b, Cd.d t.c, Cd.d t.d])) := by
  match xs, e with
  | [_, _, _, _], e => cases e; exact h
/-! zip -/
theorem itz_gives {E : Ent} {u w : Addr} {vs us : List V} {xs : List α} {ys : List β} (h1 : SqL X.K E.G u vs) (q1 : DqAll X.K E.G vs (xs.map Cd.d)) (h2 : SqL X.K E.G w us) (q2 : DqAll X.K E.G us (ys.map Cd.d)) : Gives (Itz X.K u w) E okAll (xs.zip ys) (fun z => aD X.K (Cd.d z)) where
  go := fun i hi T t L C H l _ st => by
    obtain ⟨G, F, f, c⟩ := st
    rw [List.length_zip] at hi
    have e1 := q1.len
    have e2 := q2.len
    rw [List.length_map] at e1 e2
    have l1 : i < vs.length := by omega
    have l2 : i < us.length := by omega
    exact ⟨vs, us, vs[i], us[i], f.gh.sl (f.gg.sl h1), f.gh.sl (f.gg.sl h2), List.getElem?_eq_getElem l1, List.getElem?_eq_getElem l2⟩
  stop := fun T t L C H l _ st => by
    obtain ⟨G, F, f, c⟩ := st
    have e1 := q1.len
    have e2 := q2.len
    rw [List.length_map] at e1 e2
    refine ⟨vs, us, f.gh.sl (f.gg.sl h1), f.gh.sl (f.gg.sl h2), ?_⟩
    rw [List.length_zip]
    omega
  yld := fun i z v H H' hz T t L C l _ st y => by
    obtain ⟨G, F, f, c⟩ := st
    obtain ⟨z1, z2⟩ := List.getElem?_zip_eq_some.mp hz
    obtain ⟨N, x, y', e1, e2, e3, k1, k2⟩ := y
    have g1 := k1 vs (f.gh.sl (f.gg.sl h1))
    have g2 := k2 us (f.gh.sl (f.gg.sl h2))
    obtain ⟨a1, b1, d1⟩ := q1.get (i := i) (d := Cd.d z.1) (by rw [List.getElem?_map, z1]; rfl)
    obtain ⟨a2, b2, d2⟩ := q2.get (i := i) (d := Cd.d z.2) (by rw [List.getElem?_map, z2]; rfl)
    rw [g1] at b1
    rw [g2] at b2
    cases b1
    cases b2
    subst e1 e3
    exact ST.newT f c e2 (.cons (Dq.mono f.gg _ _ d1) (.cons (Dq.mono f.gg _ _ d2) .nil))
theorem xi_zip {elts : List Expr} {kk : Nat} {xs : List α} {ys : List β} (hg : Gl X "zip") (hm : X.mg "zip" = none) (ha : XE X a ρ ρ1 (aD X.K (Cd.d xs))) (hb : XE X b ρ1 ρ2 (aD X.K (Cd.d ys)))
    (hs : starEach [a, b] X.env = (false, eval a X.env) :: starEach [b] X.env := by rfl) (hs2 : starEach [b] X.env = [(false, eval b X.env)] := by rfl) (hpl : (backTo pos (starEach [b] X.env)).any (·.1) = false := by rfl) :
    XI X (.Tuple elts kk tpos) (.Call (.Name "zip" p) [a, b] [] pos) ρ ρ2 okAll (xs.zip ys) (fun z => aD X.K (Cd.d z)) := fun E T t σ H l st R k =>
  wI.of (pi_zip hg hm (pa_cons peS (pa_cons peS pa_nil hs2) hs) hs hpl) (ha E T t σ H l st _ fun v H1 st1 => hb E (_ :: T) (_ :: t) σ H1 (by simp [l]) st1 _ fun w H2 st2 => by
    obtain ⟨G, F, f, cs, q1, q2⟩ := ST.top2 st2
    cases q1 with
    | lst a1 a2 =>
      cases q2 with
      | lst b1 b2 => exact ⟨_, _, _, _, rfl, .inl (.inl (f.gh _ _ a1)), .inl (.inl (f.gh _ _ b1)), k _ ⟨G, H2, F⟩ _ (Later.of f) ⟨G, F, f.start, cs⟩ (itz_gives (.inl (.inl a1)) a2 (.inl (.inl b1)) b2)⟩)
end
end Mr

set_option Elab.async false
set_option linter.all false
set_option maxRecDepth 100000
/-! tuples of owned things: made, unpacked into names, closed again -/
namespace Mr
open PySem PySem.Spec PyProof.Rows L2
/-- a tuple and what its items own -/
def aT (As : List OA) : OA := ⟨fun G H v F => ∃ p vs F', v = .ref p ∧ F = p :: F' ∧ H p = some (.tup vs) ∧ Cs G H (As.map some) (vs.map some) F', fun h e e' k => by
  obtain ⟨p, vs, F', e1, e2, h1, c⟩ := h
  subst e2
  exact ⟨p, vs, F', e1, rfl, k p (by simp) _ h1, c.mono e e' fun b hb => k b (by simp [hb])⟩⟩
/-- nothing is said of it -/
def aN : OA := ⟨fun _ _ _ F => F = [], fun h _ _ _ => h⟩
theorem imp_tup {As Bs : List OA} (h : ImpL As Bs) : Imp (aT As) (aT Bs) := fun q => by
  obtain ⟨p, vs, F', e2, e3, h1, c1⟩ := q
  exact ⟨p, vs, F', e2, e3, h1, h.cs c1⟩
/-- an item of a tuple -/
theorem Own.tit {ρ : Cl} {a0 v0 : V} {A : OA} {As : List OA} {w : OA → Cl} (O : Own ρ a0 (aT As) w) (k : Nat) (hk : As[k]? = some (pin v0 A)) : Own ρ v0 A (fun B => w (aT (As.set k (pin v0 B)))) := ⟨fun {G H T t σ F} l c => by
  obtain ⟨F1, F2, e1, ⟨p, vs, F', e2, e3, h1, c1⟩, go⟩ := O.get l c
  subst e2 e3
  obtain ⟨v, Fa, Fb, ev, e4, ⟨e5, q⟩, c2⟩ := c1.getP hk
  subst e5
  have pm : (p :: F' ++ F2).Perm (Fa ++ (p :: Fb ++ F2)) := by
    have q1 : (p :: F' ++ F2).Perm (p :: (Fa ++ Fb) ++ F2) := List.Perm.append_right F2 (List.Perm.cons p e4)
    refine q1.trans ?_
    show (p :: (Fa ++ Fb ++ F2)).Perm (Fa ++ (p :: (Fb ++ F2)))
    rw [List.append_assoc]
    exact List.perm_middle.symm
  refine ⟨Fa, p :: Fb ++ F2, e1.trans pm, q, fun {G' H' Fa' B} e e' kp pB => ?_⟩
  have c3 := c2.mono e e' fun b hb => kp b (by simp [hb])
  obtain ⟨F3, a3, c4⟩ := c3.join (A := pin v B) (v := v) (F1 := Fa') (by rw [List.length_map]; exact lt_of_get hk) ⟨rfl, pB⟩
  have e6 : (vs.map some).set k (some v) = vs.map some := set_get (by rw [List.getElem?_map, ev]; rfl)
  rw [e6] at c4
  have c4 : Cs G' H' ((As.set k (pin v B)).map some) (vs.map some) F3 := by simpa [List.map_set] using c4
  obtain ⟨F5, a5, c5⟩ := go e e' (fun b hb => kp b (by simp [hb])) (B := aT (As.set k (pin v B))) (F1' := p :: F3) ⟨p, vs, F3, rfl, rfl, kp p (by simp) _ h1, c4⟩
  refine ⟨F5, a5.trans ?_, c5⟩
  have q1 : (p :: F3 ++ F2).Perm (p :: (Fa' ++ Fb) ++ F2) := List.Perm.append_right F2 (List.Perm.cons p a3)
  refine q1.trans ?_
  show (p :: (Fa' ++ Fb ++ F2)).Perm (Fa' ++ (p :: (Fb ++ F2)))
  rw [List.append_assoc]
  exact List.perm_middle.symm⟩
/-- the same state, told otherwise -/
def Mv (ρ ρ' : Cl) : Prop := ∀ {G H : Hp} {T : Cl} {t σ : L2.St} {F : List Addr}, T.length = t.length → Ex G H → Cs G H (T ++ ρ) (t ++ σ) F → ∃ F', F'.Perm F ∧ Cs G H (T ++ ρ') (t ++ σ) F'
section
variable {X : Cx} {ω : Type} {sts : List Stmt} {m : Option ω} {Φ : ω → Ent → Ends → Prop} {ρ ρ1 ρ2 : Cl} {A B : OA} {a b e : Expr} {es : List Expr} {pos : Pos} {As Bs : List OA} {u v v0 a0 : V}
theorem xg_mv (h : Mv ρ ρ1) (kk : XG X sts ρ1 m Φ) : XG X sts ρ m Φ := fun r hr E σ H D st q => by
  obtain ⟨G, F, f, c⟩ := st
  obtain ⟨F', p, c'⟩ := h (T := []) (t := []) rfl f.gh c
  exact kk r hr E σ H D ⟨G, F', f.perm p.symm, c'⟩ q
theorem xe_mv (he : XE X e ρ ρ1 A) (h : Mv ρ1 ρ2) : XE X e ρ ρ2 A := fun E T t σ H l st Q k => he E T t σ H l st Q fun w H' st1 => k w H' (by
  obtain ⟨G, F, f, c⟩ := st1
  obtain ⟨F', p, c'⟩ := h (T := some A :: T) (t := some w :: t) (by simp [l]) f.gh c
  exact ⟨G, F', f.perm p.symm, c'⟩)
theorem xe_mvE {ρ3 : Cl} (he : XE X e ρ ρ1 A) (h : Mv ρ1 ρ2) (hs : ρ2 = ρ3 := by rfl) : XE X e ρ ρ3 A := hs ▸ xe_mv he h
theorem mv_take (i j k : Nat) (h1 : ρ[i]? = some (some (pin v0 (aT As)))) (hk : As[k]? = some (pin v A)) (hj : (ρ.set i (some (pin v0 (aT (As.set k (pin v aN))))))[j]? = some (some (aV v))) : Mv ρ ((ρ.set i (some (pin v0 (aT (As.set k (pin v aN)))))).set j (some (pin v A))) := fun {G H T t σ F} l ex c => by
  obtain ⟨F1, F2, p1, q, go⟩ := ((Own.slot i h1).tit k hk).get l c
  obtain ⟨F3, p3, c3⟩ := go (B := aN) (F1' := []) (.refl _) ex (fun _ _ _ z => z) rfl
  obtain ⟨w, Fa, Fb, ew, pw, ⟨e1, e2⟩, c4⟩ := Cs.slot l c3 hj
  subst e1 e2
  obtain ⟨F5, p5, c5⟩ := Cs.back (A := pin w A) l c4 (lt_of_get hj) ew ⟨rfl, q⟩
  refine ⟨F5, p5.trans (List.Perm.trans ?_ p1.symm), c5⟩
  exact List.Perm.append_left F1 ((show Fb.Perm F3 from pw.symm).trans p3)
theorem mv_give (i j k : Nat) (hj : ρ[j]? = some (some (pin v A))) (h1 : (ρ.set j none)[i]? = some (some (pin v0 (aT As)))) (hk : As[k]? = some (pin v aN)) : Mv ρ ((ρ.set j none).set i (some (pin v0 (aT (As.set k (pin v A)))))) := fun {G H T t σ F} l ex c => by
  obtain ⟨w, Fa, Fb, ew, pw, ⟨e1, q⟩, c2⟩ := Cs.slot l c hj
  subst e1
  obtain ⟨F1, F2, p1, q1, go⟩ := ((Own.slot i h1).tit k hk).get l c2
  have e0 : F1 = [] := q1
  subst e0
  obtain ⟨F3, p3, c3⟩ := go (B := A) (F1' := Fa) (.refl _) ex (fun _ _ _ z => z) q
  exact ⟨F3, p3.trans ((List.Perm.append_left Fa (show F2.Perm Fb from p1.symm)).trans pw.symm), c3⟩
theorem xg_pint (i k : Nat) (h : ρ[i]? = some (some (pin a0 (aT As)))) (hk : As[k]? = some A) (kk : ∀ v, XG X sts (ρ.set i (some (pin a0 (aT (As.set k (pin v A)))))) m Φ) : XG X sts ρ m Φ := fun r hr E σ H D st q => by
  obtain ⟨G, F, f, c⟩ := st
  obtain ⟨F1, F2, e1, ⟨p, vs, F', e2, e3, h1, c1⟩, go⟩ := (Own.slot i h).get (T := []) (t := []) rfl c
  subst e2 e3
  obtain ⟨v, Fa, Fb, ev, e4, hq, c2⟩ := c1.getP hk
  obtain ⟨F3, a3, c4⟩ := c2.join (A := pin v A) (v := v) (F1 := Fa) (by rw [List.length_map]; exact lt_of_get hk) ⟨rfl, hq⟩
  have e6 : (vs.map some).set k (some v) = vs.map some := set_get (by rw [List.getElem?_map, ev]; rfl)
  rw [e6] at c4
  have c4 : Cs G H ((As.set k (pin v A)).map some) (vs.map some) F3 := by simpa [List.map_set] using c4
  obtain ⟨F5, a5, c5⟩ := go (.refl _) f.gh (fun b _ o q => q) (B := aT (As.set k (pin v A))) (F1' := p :: F3) ⟨p, vs, F3, rfl, rfl, h1, c4⟩
  refine kk v r hr E σ H D ⟨G, F5, f.perm ?_, c5⟩ q
  exact e1.trans (List.Perm.trans (List.Perm.append_right F2 (List.Perm.cons p (e4.trans a3.symm))) a5.symm)
/-- (e, ..) of owned things -/
theorem xe_tupO {n : Nat} (h : XA X es ρ ρ1 As) (hz : As.length ≤ 1000) : XE X (.Tuple es n pos) ρ ρ1 (aT As) := fun E T t σ H l st Q k =>
  wE.of (pe_tup paS) (h E T t σ H l st _ fun vs H1 hl st1 => by
    refine ⟨by rw [hl]; exact Nat.le_trans hz (by decide), fun p hp => k _ _ ?_⟩
    obtain ⟨G, F, f, cs⟩ := st1
    obtain ⟨F1, F2, e1, c1, c2⟩ := cs.unappend (by simp [hl])
    subst e1
    obtain ⟨f1, keep⟩ := f.step (Fa := []) (Fr := F1 ++ F2) (by simp) (Frm.alloc (o := .tup vs) f.gh hp)
    have c3 := c1.mono (.refl _) f1.gh fun b hb => keep b (List.mem_append_left _ hb)
    have c4 := c2.mono (.refl _) f1.gh fun b hb => keep b (List.mem_append_right _ hb)
    exact ⟨G, _, f1, .ref p, p :: F1, F2, rfl, by simp, ⟨p, vs, F1, rfl, rfl, upd_same, c3⟩, c4⟩)
/-- several targets of things -/
def XPA (X : Cx) (ts : List Expr) (Bs : List OA) (ρ ρ' : Cl) : Prop := ∀ (E : Ent) (T : Cl) (t σ : L2.St) (H : Hp) (vs : List V), T.length = t.length → vs.length = Bs.length → ST E (Bs.map some ++ (T ++ ρ)) (vs.map some ++ (t ++ σ)) H → ∀ Q : L2.St → Hp → Prop, (∀ σ' H', ST E (T ++ ρ') (t ++ σ') H' → Q σ' H') → wGs X ts vs σ H Q
theorem xpa_nil : XPA X [] [] ρ ρ := fun E T t σ H vs l hl st Q k => by
  cases vs with
  | nil => exact wGs.of pgs_nil ⟨rfl, k σ H st⟩
  | cons _ _ => simp at hl
theorem xpa_cons {tg : Expr} {ts : List Expr} (h : XP X tg B ρ ρ1) (hr : XPA X ts Bs ρ1 ρ2) (hs : (assignEach (tg :: ts) X.env).map (·.2) = assign tg X.env :: (assignEach ts X.env).map (·.2) := by rfl) : XPA X (tg :: ts) (B :: Bs) ρ ρ2 := fun E T t σ H vs l hl st Q k => by
  cases vs with
  | nil => simp at hl
  | cons w vs =>
    have hl' : vs.length = Bs.length := by simpa using hl
    refine wGs.of (pgs_cons pgS pgsS hs) ⟨w, vs, rfl, h E (Bs.map some ++ T) (vs.map some ++ t) σ H w (by simp [l, hl']) (by simpa using st) _ fun σ' H' st' => ?_⟩
    exact hr E T t σ' H' vs l hl' (by simpa using st') Q k
theorem xl_lendE {As' : List OA} {ls : List (Nat × Nat × V)} (j i : Nat) {v0 : V} (h : XL X es ρ ρ1 As ls) (hj : As[j]? = some (aV v0)) (hi : ρ1[i]? = some (some (pin v0 A))) (h2 : As.set j A = As' := by rfl) : XL X es ρ (ρ1.set i none) As' ((j, i, v0) :: ls) := h2 ▸ xl_lend j i h hj hi
/-- what unpacking hands to the names -/
inductive Cps (K : PySem.W.Frag) : List OA → List OA → Prop
  | nil : Cps K [] []
  | own {v : V} {A : OA} {As Bs : List OA} : Cps K As Bs → Cps K (pin v A :: As) (aV v :: Bs)
  | dat {d : PyData} {As Bs : List OA} : Cps K As Bs → Cps K (aD K d :: As) (aD K d :: Bs)
theorem Cps.cs {K : PySem.W.Frag} {G H : Hp} : ∀ {As Bs : List OA} {vs : List V} {F : List Addr}, Cps K As Bs → Cs G H (As.map some) (vs.map some) F → vs.length = Bs.length ∧ Cs G H (Bs.map some) (vs.map some) []
  | _, _, [], _, .nil, _ => ⟨rfl, rfl⟩
  | _, _, _ :: _, _, .nil, c => c.elim
  | _, _, [], _, .own _, c => c.elim
  | _, _, [], _, .dat _, c => c.elim
  | _, _, w :: vs, _, .own h, c => by
    obtain ⟨x, F1, F2, e1, e2, ⟨e3, q⟩, c⟩ := c
    cases e1
    subst e3
    obtain ⟨h1, h2⟩ := h.cs c
    exact ⟨by simp [h1], w, [], [], rfl, rfl, ⟨rfl, rfl⟩, h2⟩
  | _, _, w :: vs, _, .dat h, c => by
    obtain ⟨x, F1, F2, e1, e2, ⟨q, e3⟩, c⟩ := c
    cases e1
    obtain ⟨h1, h2⟩ := h.cs c
    exact ⟨by simp [h1], w, [], [], rfl, rfl, ⟨q, rfl⟩, h2⟩
theorem xp_bun (i : Nat) {ts : List Expr} {k : Nat} (hc : X.calm = true) (h1 : ρ[i]? = some (some (pin v0 (aT As)))) (cp : Cps X.K As Bs) (h : XPA X ts Bs ρ ρ1) (hn : (assignEach ts X.env).length = Bs.length := by rfl) (hst : (assignEach ts X.env).findIdx? (·.1) = none := by rfl) : XP X (.Tuple ts k pos) (aV v0) ρ ρ1 := fun E T t σ H w l st Q kk => by
  obtain ⟨G, F, Fv, f, cs, e0, _⟩ := ST.one st
  subst e0
  obtain ⟨y, F1, F2, ey, py, ⟨e3, p, vs, F', e4, e5, hp, c1⟩, c2⟩ := cs.slot l h1
  subst e3 e4
  obtain ⟨hl, c3⟩ := cp.cs c1
  have st2 : ST E (Bs.map some ++ (T ++ ρ)) (vs.map some ++ (t ++ σ)) H := ⟨G, F, f, by simpa using c3.append cs⟩
  exact wG.of (pg_tup hc pgsS hn hst) ⟨p, vs, rfl, SqT.of hp, hl, h E T t σ H vs l hl st2 Q kk⟩
/-- w[n], w a tuple of owned things -/
theorem xe_ixU (i : Nat) {j : Nat} {n : Int} (ha : XE X a ρ ρ1 (aV v0)) (hb : XE X b ρ1 ρ2 (aD X.K (.int n))) (hp : ρ2[i]? = some (some (pin v0 (aT As)))) (hn : ixN As.length n = some j) (h : As[j]? = some (pin u A)) (hs : PlainIx b := by exact fun _ _ => rfl) :
    XE X (.Subscript a b pos) ρ ρ2 (aV u) := fun E T t σ H l st Q k =>
  wE.of (pe_ix ix_tup peS peS hs) (ha E T t σ H l st _ fun x H1 st1 => hb E (_ :: T) (_ :: t) σ H1 (by simp [l]) st1 _ fun y H2 st2 => by
    obtain ⟨G, F, Fv, Fw, f, cs, ⟨q1, _⟩, q2, _⟩ := ST.two st2
    cases q2
    obtain ⟨v, F1, F2, e1, e2, ⟨e3, p, vs, F', e4, e5, h1, c1⟩, c2⟩ := cs.slot l hp
    subst q1 e3 e4
    obtain ⟨w, Fa, Fb, hw, _, ⟨e7, _⟩, _⟩ := c1.getP h
    subst e7
    have hl : vs.length = As.length := by simpa using c1.len.symm
    exact ⟨p, vs, n, w, rfl, rfl, SqT.of h1, by unfold atI; rw [hl, hn]; exact hw, k w H2 ⟨G, F, f, w, [], F, rfl, rfl, ⟨rfl, rfl⟩, cs⟩⟩)
end
section
variable {X : Cx} {ρ : Cl} {A : OA} {pos : Pos}
/-- a name that hands over what it owns -/
theorem xe_nmMove (i : Nat) {x : Str} {v0 : V} (h : ρ[i]? = some (some (pin v0 A))) (hN : X.N[i]? = some x := by rfl) (hv : Vis X.env.scope x := by first | exact Or.inl rfl | exact Or.inr (Or.inl rfl) | exact Or.inr (Or.inr rfl)) (hd : (x == ("__debug__" : Str)) = false := by decide)
    (hcd : (x == ("__classdict__" : Str)) = false := by decide) : XE X (.Name x pos) ρ (ρ.set i none) A := fun E T t σ H l st Q k => by
  obtain ⟨G, F, f, cs⟩ := st
  obtain ⟨v, F1, F2, e1, e2, ⟨e0, q⟩, c2⟩ := cs.slot l h
  subst e0
  exact wE.of (pe_var hN hv hd hcd) ⟨v, e1, k v H ⟨G, F1 ++ F2, f.perm e2, v, F1, F2, rfl, rfl, q, c2⟩⟩
end
end Mr

set_option Elab.async false
set_option linter.all false
set_option maxRecDepth 100000
/-! sorted(d) of a dict with int keys, however many -/
namespace Mr
open PySem PySem.Spec PyProof.Rows L2
def rSrtD : List V → Hp → VK → Prop := fun xs H Q => ∃ (a : Addr) (kvs : List (Key × V)) (ks : List Int), xs = [.ref a] ∧ Rd H a (.dK kvs) ∧ kvs.map (·.1) = ks.map Sum.inl ∧ ks.length ≤ 100000 ∧ ∀ (ys : List Int) (p : Addr), ys.Perm ks → ys.Pairwise (· ≤ ·) → H p = none → Q (.ref p) (upd H p (.lst (ys.map V.int)))
theorem cr_sortedD {X : Cx} (calm : X.calm = true) : CallR X (.builtin "sorted") rSrtD := by
  rintro pins s σ H _ us Q I r ⟨a, kvs, ks, rfl, rd, kk, few, q⟩
  rw [Vals.ref1 r]
  obtain ⟨z, lo, vs, rel, dd⟩ := dk_rd I.hok rd
  obtain ⟨ep, place⟩ := dd.dictAt
  have keys : vs.map (·.1) = ks.map Sum.inl := rel.keys.symm.trans kk
  have many : vs.length = ks.length := by simpa using congrArg List.length keys
  have size : (100000 : Nat) ≤ sizeLine := by rw [sizeLine_eq]; omega
  refine Calls.call_function_entry PyProof.Rows.kind_sorted PyProof.Rows.plain_sorted PyProof.Rows.entry_sorted (PyProof.Rows.args_sorted1 _) ?_
  unfold Builtin.«sorted»
  refine wpAny_bind (m := checkCount "sorted" 1 1 _) (wpAny_pure (wpAny_bind (PySem.W.kdu_collect (A := X.A.in1) (PySem.W.kdl_dict (knd := mixKind X.prog X.w) (kvs := vs) (ep := ep) lo) (I.ok.hd calm) place (by omega) fun h' tk acc old got => ?_)))
  have len : acc.toList.length = ks.length := by rw [Array.length_toList, got.1, many]
  have hints : IntsAre acc.toList ks := ints_each len fun j v e => by
    obtain ⟨k, x, e1, e2⟩ := got.2 j v (by rw [← Array.getElem?_toList]; exact e)
    have e3 : (ks.map (Sum.inl : Int → Key))[j]? = some k := by rw [← keys, List.getElem?_map, e1]; rfl
    obtain ⟨y, e4, rfl⟩ := Option.map_eq_some_iff.mp (by rw [← List.getElem?_map]; exact e3)
    rcases keyIs_shape (show keyIs (Sum.inl y) v = true from e2) with ⟨i, t, ek, ev⟩ | ⟨w, t, ek, ev⟩
    · exact ⟨y, t, e4, by cases ek; exact ev⟩
    · cases ek
  refine wpAny_bind (wpAny_newList ?_ (by omega))
  have there : (h'.push (seqObj "list" acc.toList.toArray 0)).get? h'.objs.size = some (seqObj "list" acc.toList.toArray 0) := Heap.get?_push_size _ rfl
  show wpAny _ _ _ _ _ { s with heap := h'.push (seqObj "list" acc.toList.toArray 0), toks := tk }
  refine wpAny_bind (wpAny_holding (wpAny_call_entry PyProof.Rows.slot_list_sort ⟨_, there, rfl⟩ PyProof.Rows.entry_list_sort (SrtO.list_sort_ord (s := { s with heap := h'.push (seqObj "list" acc.toList.toArray 0), toks := tk }) SrtO.swo_int there (by omega) (fun two => SrtO.ints_sortable hints two) fun out sd st => ⟨.none, rfl, ?_⟩) (PyProof.Rows.args_list_sort _)))
  obtain ⟨k1, k2, k3⟩ := SrtO.ints_out hints sd st
  obtain ⟨e', he'⟩ := PyProof.Rows.sortedHeap_at (vs := acc.toList) (out := out.toArray) there
  have J : Inv X pins σ H { s with heap := h', toks := tk } := I.kept old
  have short : ((out.map SrtO.iv).map V.int).length ≤ sizeLine := by rw [List.length_map, k2.length_eq]; omega
  refine wpAny_pure ⟨_, rfl, .ref h'.objs.size, upd H h'.objs.size (.lst ((out.map SrtO.iv).map V.int)), J.laid (t' := tk) (fun b u e => ?_) (Nat.le_refl _) ⟨short, out, e', vals_of_ints k1, he'⟩, rfl, q _ _ k2 k3 (J.hok.fresh (Nat.le_refl _))⟩
  have lt := Heap.lt_size e
  rw [PyProof.Rows.sortedHeap_old (Nat.ne_of_lt lt) (by rw [size_push']; exact Nat.lt_succ_of_lt lt)]
  exact Heap.get?_push_of_some _ e
section
variable {X : Cx} {ρ ρ1 : Cl} {o : Expr} {v0 : V} {p pos : Pos} {w : OA → Cl} {kvs : List (Int × List PyData)}
theorem xe_dsortedN {α : Type} [Cd α] {kvs : List (Int × α)} (hc : X.calm = true) (hz : kvs.length ≤ 100000) (ho : XE X o ρ ρ1 (aV v0)) (O : Own ρ1 v0 (aDK X.K (dD kvs)) w) (hm : X.mg "sorted" = none) (hg : Gl X "sorted" := by rfl) (hs : starEach [o] X.env = [(false, eval o X.env)] := by rfl) (hpl : (backTo pos (starEach [] X.env)).any (·.1) = false := by rfl) : XE X (.Call (.Name "sorted" p) [o] [] pos) ρ ρ1 (aLD X.K ((srtI (dKeys kvs)).map PyData.int)) :=
  xe_callB (cr_sortedD hc) (xa_cons ho xa_nil hs) (fun E T t σ vs H Q l hl st k => by
    obtain ⟨v, rfl⟩ := vs1 hl
    have e0 := ST.topV st
    subst e0
    obtain ⟨G, F, f, c⟩ := ST.pop st
    obtain ⟨q, ws, e1, h1, h2⟩ := ST.seeD l c O
    refine ⟨q, ws, dKeys kvs, by rw [e1], .inl h1, by rw [h2.keys, dKeys_d], by unfold dKeys; rw [List.length_map]; exact hz, fun ys p' hp hsrt hn => ?_⟩
    have e := sorted_unique (hp.trans (srtI_perm _).symm) hsrt (srtI_sorted _)
    subst e
    exact k _ _ (ST.newL f c hn (dqI _))) hm (by decide +kernel) hg (by decide) (by decide) hs hpl
end
end Mr

set_option Elab.async false
set_option linter.all false
set_option maxRecDepth 100000
/-! tuples of one or two items; tuples of many items as data; x in a written tuple of texts; a list times a number -/
namespace Mr
open PySem PySem.Spec PyProof.Rows L2
/-- a tuple whose second item may be missing -/
structure TP (α β : Type) where
  a : α
  o : Option β
  deriving DecidableEq
/-- a tuple of as many items as there are -/
structure Tu (α : Type) where
  l : List α
  deriving DecidableEq
instance {α β : Type} [Cd α] [Cd β] : Cd (TP α β) := ⟨fun p => .tuple (Cd.d p.a :: p.o.toList.map Cd.d), max (Cd.dep α) (Cd.dep β) + 1, fun p => by
  obtain ⟨a, o⟩ := p
  cases o <;> simp [PyData.canLay0, PyData.canLayAll0, Cd.can], fun p => by
  obtain ⟨a, o⟩ := p
  have h1 := Cd.hdep a
  cases o with
  | none => simp only [PyData.depth, PyData.depthAll, Option.toList, List.map_nil]; omega
  | some b =>
    have h2 := Cd.hdep b
    simp only [PyData.depth, PyData.depthAll, Option.toList, List.map_cons, List.map_nil]
    omega⟩
instance {α : Type} [Cd α] : Cd (Tu α) := ⟨fun p => .tuple (p.l.map Cd.d), Cd.dep α + 1, fun p => by simp [PyData.canLay0, can_all], fun p => by
  have := dep_all p.l
  simp only [PyData.depth]
  omega⟩
instance {α β : Type} [Cd α] [Cd β] : Cn (TP α β) := ⟨fun _ => rfl⟩
instance {α : Type} [Cd α] : Cn (Tu α) := ⟨fun _ => rfl⟩
instance {α β : Type} [Cd α] [Cd β] [DecidableEq α] [DecidableEq β] [Ce α] [Ce β] : Ce (TP α β) := ⟨fun x y => by
  show PyData.eqv (.tuple _) (.tuple _) = _
  obtain ⟨x1, x2⟩ := x
  obtain ⟨y1, y2⟩ := y
  cases x2 <;> cases y2 <;> simp [PyData.eqv, PyData.eqvAll, Ce.eqv, TP.mk.injEq]⟩
instance {α : Type} [Cd α] [DecidableEq α] [Ce α] : Ce (Tu α) := ⟨fun x y => by
  show PyData.eqv (.tuple _) (.tuple _) = _
  obtain ⟨x⟩ := x
  obtain ⟨y⟩ := y
  rw [PyData.eqv]
  simp only [Tu.mk.injEq]
  exact eqv_all x y⟩
section
variable {X : Cx} {ρ ρ1 ρ2 : Cl} {a b e : Expr} {pos : Pos} {A B : OA} {α β : Type} [Cd α] [Cd β]
theorem xe_tp0 {p : TP α β} (ha : XE X a ρ ρ1 (aD X.K (Cd.d p))) (hb : XE X b ρ1 ρ2 (aD X.K (.int 0))) (hs : PlainIx b := by exact fun _ _ => rfl) : XE X (.Subscript a b pos) ρ ρ2 (aD X.K (Cd.d p.a)) := xe_ixT ha hb rtD (by
  unfold atI ixN
  rw [if_pos (by decide), if_pos (by simp only [List.length_cons]; omega)]
  rfl) hs
theorem xe_tp1 {p : TP α β} {v : β} (h : p.o = some v) (ha : XE X a ρ ρ1 (aD X.K (Cd.d p))) (hb : XE X b ρ1 ρ2 (aD X.K (.int 1))) (hs : PlainIx b := by exact fun _ _ => rfl) : XE X (.Subscript a b pos) ρ ρ2 (aD X.K (Cd.d v)) := xe_ixT ha hb rtD (by
  rw [h]
  rfl) hs
theorem dq_words {K : PySem.W.Frag} {G : Hp} : ∀ {ys : List V} {xs : List Wd}, DqAll K G ys (xs.map Cd.d) → ys = xs.map fun x => V.str x.1
  | _, [], h => by cases h; rfl
  | _, x :: xs, h => by
    cases h with
    | cons h1 h2 =>
      have h1 : Dq K G _ (PyData.str x.1) := h1
      cases h1
      rw [dq_words h2]
      rfl
theorem inV_word (x : Wd) (xs : List Wd) : inV (V.str x.1) (xs.map fun x => V.str x.1) = decide (x ∈ xs) := by
  unfold inV
  induction xs with
  | nil => rfl
  | cons y ys ih =>
    rw [List.map_cons, List.any_cons, ih]
    show ((y.1 == x.1) || _) = _
    by_cases q : y = x
    · subst q
      rw [decide_eq_true (List.mem_cons_self), beq_self_eq_true]
      rfl
    · have : (y.1 == x.1) = false := by
        rw [beq_eq_false_iff_ne]
        exact fun h => q (Subtype.ext h)
      rw [this, Bool.false_or]
      have e : (x ∈ y :: ys) ↔ (x ∈ ys) := ⟨fun h => (List.mem_cons.mp h).elim (fun h => absurd h.symm q) id, List.mem_cons_of_mem _⟩
      exact decide_eq_decide.mpr e.symm
/-- x in a written tuple of texts -/
theorem xk_inW {x : Wd} {ws : List Wd} (ha : XE X a ρ ρ1 (aD X.K (Cd.d x))) (hb : XE X b ρ1 ρ2 B) (r : Rtu X.K ρ2 B (ws.map Cd.d)) (hm : behindInMarks .In b = false := by first | rfl | exact nomark _) : XKm X (.Compare a [.In] [b] pos) ρ ρ2 (decide (x ∈ ws)) :=
  ⟨_, pe_cmpR op_in_seq peS peS hm, pt_cmpR op_in_seq peS peS hm, fun E T t σ H l st Q kk => ha E T t σ H l st _ fun u H1 st1 => hb E (_ :: T) (_ :: t) σ H1 (by simp [l]) st1 _ fun y H2 st2 => by
    obtain ⟨G, F, Fv, Fw, f, c, q1, q2⟩ := ST.two st2
    obtain ⟨q1, _⟩ := q1
    have q1 : Dq X.K G u (PyData.str x.1) := q1
    cases q1
    obtain ⟨p, ys, e1, e2, e3⟩ := r l c f.gh q2
    have e4 := dq_words e3
    subst e4
    refine ⟨p, _, e1, .inr e2, rfl, ?_, ?_⟩
    · rw [List.all_map]
      exact List.all_eq_true.mpr fun _ _ => rfl
    · show Q (V.bl (inV (V.str x.1) (ws.map fun x => V.str x.1))) H2
      rw [inV_word]
      exact kk _ _ (ST.put f c (.bl _))⟩
end
end Mr

set_option Elab.async false
set_option linter.all false
set_option maxRecDepth 100000
/-! shifts of great ints; a list of ints or ["refused", b] -/
namespace Mr
open PySem PySem.Spec PyProof.Rows L2
def ShOk (i j : Int) : Prop := 0 ≤ j ∧ j ≤ 1000 ∧ i.natAbs < 2 ^ 1000
instance (i j : Int) : Decidable (ShOk i j) := by unfold ShOk; exact inferInstance
section
variable {X : Cx} {ρ ρ1 ρ2 : Cl} {a b : Expr} {pos : Pos} {i j : Int}
theorem xe_shlW (hc : ShOk i j) (ha : XE X a ρ ρ1 (aD X.K (.int i))) (hb : XE X b ρ1 ρ2 (aD X.K (.int j))) : XE X (.BinOp a .LShift b pos) ρ ρ2 (aD X.K (.int (i * 2 ^ j.toNat))) := xe_opI (g := fun i j => i * 2 ^ j.toNat) op_shlW ha hb (by
  obtain ⟨h0, h1, h2⟩ := hc
  have := shl_ok (i := i) (j := j.toNat) (n := 1000) h2 (by omega)
  rwa [Int.toNat_of_nonneg h0] at this)
end
/-- a list of ints, or ["refused", b] -/
inductive Rf
  | ok (l : List Int)
  | no (b : Bool)
  deriving DecidableEq
def w_ref : Wd := ⟨"refused", by decide +kernel⟩
instance : Cd Rf := ⟨fun x => match x with | .ok xs => Cd.d xs | .no b => .list [Cd.d w_ref, Cd.d b], 1, fun x => by
  cases x with
  | ok xs => exact Cd.can xs
  | no b => simp [PyData.canLay0, PyData.canLayAll0, Cd.can], fun x => by
  cases x with
  | ok xs => exact Cd.hdep xs
  | no b =>
    have h1 := Cd.hdep w_ref
    have h2 := Cd.hdep b
    have e1 : Cd.dep Wd = 0 := rfl
    have e2 : Cd.dep Bool = 0 := rfl
    simp only [PyData.depth, PyData.depthAll]
    omega⟩
instance : Cn Rf := ⟨fun x => by cases x <;> rfl⟩
instance : Ce Rf := ⟨fun x y => by
  cases x with
  | ok xs =>
    cases y with
    | ok ys =>
      show PyData.eqv (Cd.d xs) (Cd.d ys) = _
      rw [Ce.eqv]
      exact decide_eq_decide.mpr ⟨fun h => congrArg Rf.ok h, fun h => by cases h; rfl⟩
    | no b =>
      show PyData.eqv (.list _) (.list _) = _
      rw [decide_eq_false (fun h => by cases h)]
      cases xs with
      | nil => simp [PyData.eqv, PyData.eqvAll]
      | cons x xs => 
        show PyData.eqv (.list (PyData.int x :: _)) (.list (PyData.str w_ref.1 :: _)) = _
        simp [PyData.eqv, PyData.eqvAll]
  | no a =>
    cases y with
    | ok ys =>
      show PyData.eqv (.list _) (.list _) = _
      rw [decide_eq_false (fun h => by cases h)]
      cases ys with
      | nil => simp [PyData.eqv, PyData.eqvAll]
      | cons x xs => 
        show PyData.eqv (.list (PyData.str w_ref.1 :: _)) (.list (PyData.int x :: _)) = _
        simp [PyData.eqv, PyData.eqvAll]
    | no b =>
      show PyData.eqv (.list _) (.list _) = _
      rw [PyData.eqv]
      simp only [PyData.eqvAll, Ce.eqv]
      rw [Bool.eq_iff_iff]
      simp⟩
section
variable {X : Cx} {ρ ρ1 : Cl} {e : Expr}
theorem xe_rfOk {xs : List Int} (h : XE X e ρ ρ1 (aD X.K (Cd.d xs))) : XE X e ρ ρ1 (aD X.K (Cd.d (Rf.ok xs))) := h
theorem xe_rfNo {b : Bool} (h : XE X e ρ ρ1 (aL [aD X.K (Cd.d w_ref), aD X.K (Cd.d b)])) : XE X e ρ ρ1 (aD X.K (Cd.d (Rf.no b))) := xe_frz (ds := [Cd.d w_ref, Cd.d b]) h
end
end Mr

set_option Elab.async false
set_option linter.all false
set_option maxRecDepth 100000
/-! a value of one of two kinds -/
namespace Mr
open PySem PySem.Spec PyProof.Rows L2
inductive Sm (α β : Type)
  | l (x : α)
  | r (y : β)
  deriving DecidableEq
instance {α β : Type} [Cd α] [Cd β] : Cd (Sm α β) := ⟨fun s => match s with | .l x => Cd.d x | .r y => Cd.d y, max (Cd.dep α) (Cd.dep β), fun s => by cases s <;> exact Cd.can _, fun s => by
  cases s with
  | l x => exact Nat.le_trans (Cd.hdep x) (Nat.le_max_left _ _)
  | r y => exact Nat.le_trans (Cd.hdep y) (Nat.le_max_right _ _)⟩
instance {α β : Type} [Cd α] [Cd β] [Cn α] [Cn β] : Cn (Sm α β) := ⟨fun s => by
  cases s with
  | l x => exact Cn.nn (α := α) x
  | r y => exact Cn.nn (α := β) y⟩
section
variable {α β γ δ ε ζ η θ ι : Type} [Cd α] [Cd β] [Cd γ] [Cd δ] [Cd ε] [Cd ζ] [Cd η] [Cd θ] [Cd ι] [DecidableEq α] [DecidableEq β] [DecidableEq γ] [DecidableEq δ] [DecidableEq ε] [DecidableEq ζ] [DecidableEq η] [DecidableEq θ] [DecidableEq ι] [Ce α] [Ce β] [Ce γ] [Ce δ] [Ce ε] [Ce ζ] [Ce η] [Ce θ] [Ce ι]
instance : Ce (Sm (T6 α β γ δ ε ζ) (T3 η θ ι)) := ⟨fun x y => by
  cases x with
  | l x =>
    cases y with
    | l y =>
      show PyData.eqv (Cd.d x) (Cd.d y) = _
      rw [Ce.eqv]
      exact decide_eq_decide.mpr ⟨fun h => congrArg Sm.l h, fun h => by cases h; rfl⟩
    | r y =>
      show PyData.eqv (.tuple _) (.tuple _) = _
      rw [decide_eq_false (fun h => by cases h)]
      simp [PyData.eqv, PyData.eqvAll]
  | r x =>
    cases y with
    | l y =>
      show PyData.eqv (.tuple _) (.tuple _) = _
      rw [decide_eq_false (fun h => by cases h)]
      simp [PyData.eqv, PyData.eqvAll]
    | r y =>
      show PyData.eqv (Cd.d x) (Cd.d y) = _
      rw [Ce.eqv]
      exact decide_eq_decide.mpr ⟨fun h => congrArg Sm.r h, fun h => by cases h; rfl⟩⟩
end
section
variable {X : Cx} {ρ ρ1 : Cl} {e : Expr} {α β : Type} [Cd α] [Cd β]
theorem xe_smL {x : Option α} (h : XE X e ρ ρ1 (aD X.K (Cd.d x))) : XE X e ρ ρ1 (aD X.K (Cd.d (x.map (Sm.l (β := β))))) := by cases x <;> exact h
theorem xe_smR {x : Option β} (h : XE X e ρ ρ1 (aD X.K (Cd.d x))) : XE X e ρ ρ1 (aD X.K (Cd.d (x.map (Sm.r (α := α))))) := by cases x <;> exact h
theorem xe_sm1 {x : α} (h : XE X e ρ ρ1 (aD X.K (Cd.d x))) : XE X e ρ ρ1 (aD X.K (Cd.d (some (Sm.l (β := β) x)))) := h
theorem xe_sm2 {x : β} (h : XE X e ρ ρ1 (aD X.K (Cd.d x))) : XE X e ρ ρ1 (aD X.K (Cd.d (some (Sm.r (α := α) x)))) := h
def Sm.getL {α β : Type} : Sm α β → Option α
  | .l x => some x
  | .r _ => none
theorem xe_smAs {s : Sm α β} {x : α} (h : s.getL = some x) (ha : XE X e ρ ρ1 (aD X.K (Cd.d s))) : XE X e ρ ρ1 (aD X.K (Cd.d x)) := by
  cases s with
  | l y => cases h; exact ha
  | r y => cases h
def sm0 {β γ δ ε ζ θ ι : Type} : Sm (T6 Wd β γ δ ε ζ) (T3 Wd θ ι) → Wd
  | .l x => x.a
  | .r y => y.a
theorem xe_sm0 {β γ δ ε ζ θ ι : Type} [Cd β] [Cd γ] [Cd δ] [Cd ε] [Cd ζ] [Cd θ] [Cd ι] {a b : Expr} {pos : Pos} {ρ2 : Cl} {s : Sm (T6 Wd β γ δ ε ζ) (T3 Wd θ ι)} (ha : XE X a ρ ρ1 (aD X.K (Cd.d s))) (hb : XE X b ρ1 ρ2 (aD X.K (.int 0))) (hs : PlainIx b := by exact fun _ _ => rfl) : XE X (.Subscript a b pos) ρ ρ2 (aD X.K (Cd.d (sm0 s))) := by
  cases s with
  | l x => exact xe_ixT ha hb rtD rfl hs
  | r y => exact xe_ixT ha hb rtD rfl hs
end
end Mr

set_option Elab.async false
set_option linter.all false
set_option maxRecDepth 100000
/-! xs[lo:hi] = ys -/
namespace L2
open PySem PySem.Spec PyProof.Rows
section
variable {prog : Program} {w : World} {A : Around} {E : Value → Shared → Prop} {s : Shared}
theorem setItem_cut {l b sl : Addr} {items new : Array Value} {n n2 : Nat} {vl vu : Value} {lo hi : Option Int} {a c : Nat} {Q : Unit → Shared → Prop}
    (e : s.heap.get? l = some { cls := .type "list", data := .seq items n }) (e2 : s.heap.get? b = some { cls := .type "list", data := .seq new n2 }) (hne : l ≠ b)
    (hs : s.heap.IsSliceOf sl vl vu .none) (pl : IsPart vl lo) (pu : IsPart vu hi) (ea : HT.sIx items.size 0 lo = a) (ec : HT.sIx items.size items.size hi = c)
    (hsz : items.size + new.size ≤ sizeLine) (h : Q () { s with heap := s.heap.update l (Obj.mapSeq fun xs => xs.extract 0 a ++ new ++ xs.extract (max a c) xs.size) }) :
    wpAny (model prog w) A (setItem (.ref l) (.ref sl) (.ref b)) Q E s := by
  have hl : s.heap.IsList l items := PySem.IsL.isList e
  have hb : s.heap.IsList b new := PySem.IsL.isList e2
  obtain ⟨os, hos, hcs, hds⟩ := id hs
  have hTs : s.TypeIs (.ref sl) "slice" := ⟨os, hos, hcs⟩
  have hstep : ¬ ((rawPart none == rawInt 0) = true) := Bool.false_ne_true
  have hsame : Builtin.List.listSameRef (.ref l) (.ref b) = false := by
    unfold Builtin.List.listSameRef
    exact beq_eq_false_iff_ne.mpr hne
  have hmax : (max (a : Int) (c : Int)).toNat = max a c := by omega
  have hz' : ((fun xs : Array Value => xs.extract 0 a ++ new ++ xs.extract (max a c) xs.size) items).size ≤ sizeLine + 1 := by
    simp only [Array.size_append, Array.size_extract]
    omega
  have bnd : sliceBounds lo hi none items.size = ((a : Int), (c : Int), 1) := by
    obtain ⟨h1, h2, h3⟩ := slice_bounds lo hi items.size
    rw [ea] at h1
    rw [ec] at h2
    exact Prod.ext h1 (Prod.ext h2 h3)
  unfold setItem
  try with_reducible refine wpAny_holding ?_
  first | refine wpAny_bind (wpAny_pure ?_) | skip
  refine wpAny_bind (wpAny_sequenceKey hl.typeIs (by decide) ?_)
  refine wpAny_bind (wpAny_callSpecial?_slot (name := Str.ofString "__setitem__") hl.typeIs slot_list_setitem
    (wpAny_call_entry slot_list_setitem hl.typeIs entry_list_setitem ?_ (args_list_setitem _ _ _)))
  show wpAny _ _ (Builtin.List.listSubscript? (.ref sl) >>= _) _ _ s
  refine wpAny_bind ?_
  unfold Builtin.List.listSubscript?
  refine wpAny_bind (wpAny_specialOf hTs slice_no_index ?_)
  simp only [Option.isNone_none, if_true]
  refine wpAny_pure ?_
  show wpAny _ _ (typeOf (.ref sl) >>= _) _ _ s
  refine wpAny_bind (wpAny_typeOf hTs ?_)
  first
    | rw [if_neg (by decide)]
    | refine PySem.W.KFB.if_not (by decide) ?_
  rw [listSliceParts_eq]
  refine wpAny_bind (wpAny_bind (wpAny_field hos hds (x := .none) rfl (wpAny_bind (wpAny_listPart .none ?_))))
  rw [if_neg hstep]
  refine wpAny_bind (wpAny_field hos hds (x := vl) rfl (wpAny_bind (wpAny_listPart pl ?_)))
  refine wpAny_bind (wpAny_field hos hds (x := vu) rfl (wpAny_bind (wpAny_listPart pu (wpAny_pure ?_))))
  first
    | simp only [hsame, Bool.false_eq_true, if_false]
    | refine PySem.W.KFB.if_not hsame ?_
    | (dsimp only
       rw [if_neg (by rw [hsame]; exact Bool.false_ne_true)])
  refine wpAny_bind (m := Builtin.List.listAllItems (.ref b) "must assign iterable to extended slice") ?_
  unfold Builtin.List.listAllItems
  refine wpAny_bind (wpAny_typeOf hb.typeIs ?_)
  first
    | refine PySem.W.KFB.if_so (by decide) ?_
    | rw [if_pos (by decide)]
    | simp only [beq_self_eq_true, Bool.true_or, if_true]
  unfold Builtin.List.listItems
  refine wpAny_bind (wpAny_seqItems e2 rfl (wpAny_pure ?_))
  refine wpAny_bind (wpAny_bind (wpAny_seqItems e rfl (wpAny_pure ?_)))
  refine wpAny_bind (wpAny_of_eq ((sliceIndices_raw lo hi none items.size (by simp)).trans (congrArg (pure : Int × Int × Int → Sem (Int × Int × Int)) bnd)) ?_)
  show wpAny _ _ (if ((1 : Int) == 1) = true then _ else _) _ _ s
  rw [if_pos (by decide)]
  refine wpAny_bind (wpAny_rule ?_)
  first
    | simp only [notLongL hsz, Bool.false_eq_true, if_false]
    | refine PySem.W.KFB.if_not (notLongL hsz) ?_
  first | refine wpAny_bind (wpAny_pure ?_) | skip
  show wpAny _ _ (updateSeq l (fun xs => xs.extract 0 ((a : Int)).toNat ++ new ++ xs.extract (max (a : Int) (c : Int)).toNat xs.size) >>= _) _ _ s
  rw [hmax, Int.toNat_natCast]
  refine wpAny_bind (wpAny_updateSeq (hz := Nat.le_trans (Nat.le_add_right _ _) hsz) (_hz' := hz') e rfl ?_)
  refine wpAny_bind (wpAny_letGo ?_)
  first
    | exact wpAny_bind (wpAny_pure (wpAny_pure ⟨.none, rfl, wpAny_pure h⟩))
    | exact wpAny_pure ⟨.none, rfl, wpAny_pure h⟩
end
/-- a list with a cut of it exchanged -/
def splC {α : Type} (xs : List α) (lo hi : Option Int) (ys : List α) : List α := xs.take (HT.sIx xs.length 0 lo) ++ ys ++ xs.drop (max (HT.sIx xs.length 0 lo) (HT.sIx xs.length xs.length hi))
section
variable {X : Cx}
theorem set_cut {pins : List (Addr × Obj)} {s : Shared} {σ : St} {H : Hp} {l b sl : Addr} {xs ys : List V} {lo hi : Option Int} {vl vu : Value} {Q : Unit → Shared → Prop} (I : Inv X pins σ H s)
    (hH : H l = some (.lst xs)) (hB : H b = some (.lst ys)) (hne : l ≠ b) (hs : s.heap.IsSliceOf sl vl vu .none) (pl : IsPart vl lo) (pu : IsPart vu hi)
    (hz : xs.length + ys.length ≤ sizeLine) (h : ∀ s', Inv X pins σ (upd H l (.lst (splC xs lo hi ys))) s' → Q () s') :
    wpAny (model X.prog X.w) X.A (setItem (.ref l) (.ref sl) (.ref b)) Q X.xe s := by
  obtain ⟨z, its, n, r, hl, e⟩ := I.lstM hH
  obtain ⟨z2, its2, n2, r2, hl2, e2⟩ := I.lstM hB
  refine setItem_cut (lo := lo) (hi := hi) (a := HT.sIx xs.length 0 lo) (c := HT.sIx xs.length xs.length hi) e e2 hne hs pl pu (by rw [List.size_toArray, ← hl]) (by rw [List.size_toArray, ← hl]) (by rw [List.size_toArray, List.size_toArray]; omega) (h _ ?_)
  refine I.lset (its' := its.take (HT.sIx xs.length 0 lo) ++ its2 ++ its.drop (max (HT.sIx xs.length 0 lo) (HT.sIx xs.length xs.length hi))) (t' := s.toks) hH e ?_ (Vals.append (Vals.append (r.take _) r2) (r.drop _)) ?_
  · exact splice_eq its its2 _ _
  · unfold splC
    rw [List.length_append, List.length_append, List.length_take, List.length_drop]
    omega
def gCut (to : TE) (tl th : TO) : TG := fun v σ H Q => to σ H fun x H1 => tl σ H1 fun lo H2 => th σ H2 fun hi H3 => ∃ l b xs ys, x = .ref l ∧ v = .ref b ∧ H3 l = some (.lst xs) ∧ H3 b = some (.lst ys) ∧ l ≠ b ∧ xs.length + ys.length ≤ sizeLine ∧ Q σ (upd H3 l (.lst (splC xs lo hi ys)))
theorem pg_cut {o : Expr} {lo hi : Option Expr} {to : TE} {tl th : TO} {pos p2 : Pos} (ho : PE X o to) (hl : PO X lo tl) (hu : PO X hi th) : PG X (.Subscript o (.Slice lo hi none p2) pos) (gCut to tl th) := by
  have ha : ∀ v, assign (.Subscript o (.Slice lo hi none p2) pos) X.env v = (do
      let ov ← holding [v] (eval o X.env)
      let iv ← holding [v, ov] (eval (.Slice lo hi none p2) X.env)
      standAt pos
      holding [v, ov, iv] (setItem ov iv v)
      release [iv, v, ov] []) := fun _ => rfl
  refine ⟨fun pins s σ H v u Q I r h => ?_⟩
  rw [ha]
  refine wpAny_bind (wpAny_holding (thn (ho.run pins s σ H _ I h) fun ov s1 ⟨x, H1, I1, r1, q1⟩ => ?_))
  refine wpAny_bind (wpAny_holding (wpAny_Slice (thn (hl.run pins s1 σ H1 _ I1 q1) fun vl s2 ⟨l, H2, I2, pl, q2⟩ => thn (hu.run pins s2 σ H2 _ I2 q2) fun vu s3 ⟨u, H3, I3, pu, q3⟩ => ?_)))
  rw [evalPart_none]
  refine wpAny_pure ?_
  have I4 : Inv X pins σ H3 { s3 with heap := s3.heap.push { cls := .type "slice", data := .fields #[vl, vu, .none] } } := I3.kept (t' := s3.toks) fun b ob q => Heap.get?_push_of_some _ q
  obtain ⟨p, b, xs, ys, rfl, rfl, h1, h2, hne, hz, q⟩ := q3
  cases r1
  cases r
  refine wpAny_bind (wpAny_standAt (wpAny_bind (wpAny_holding (set_cut I4 h1 h2 hne (Heap.IsSliceOf.new ..) pl pu hz fun s' I' => ?_))))
  exact wpAny_release ⟨σ, _, I', q⟩
end
end L2
namespace Mr
open PySem PySem.Spec PyProof.Rows L2
theorem splC_map {α β : Type} (f : α → β) (xs ys : List α) (lo hi : Option Int) : splC (xs.map f) lo hi (ys.map f) = (splC xs lo hi ys).map f := by
  unfold splC
  simp only [List.length_map, List.map_append, List.map_take, List.map_drop]
theorem dq_spl {K : PySem.W.Frag} {G : Hp} {vs us : List V} {ds es : List PyData} (lo hi : Option Int) (h : DqAll K G vs ds) (q : DqAll K G us es) : DqAll K G (splC vs lo hi us) (splC ds lo hi es) := by
  unfold splC
  rw [h.len]
  exact ((h.take _).append q).append (h.drop _)
section
variable {X : Cx} {ρ ρ1 ρ2 : Cl} {o : Expr} {lo hi : Option Expr} {pos p2 : Pos} {v0 : V} {w : OA → Cl} {i j : Option Int}
theorem xp_cut {ds es : List PyData} (ho : XE X o ρ ρ (aV v0)) (hl : XO X lo ρ ρ1 i) (hh : XO X hi ρ1 ρ2 j) (O : Own ρ2 v0 (aLD X.K ds) w) (hz : ds.length + es.length ≤ 1000000) : XP X (.Subscript o (.Slice lo hi none p2) pos) (aD X.K (.list es)) ρ (w (aLD X.K (splC ds i j es))) := fun E T t σ H v l st Q k => by
  have part : ∀ {e : Option Expr} {n : Option Int} {ρ ρ' : Cl} {x : V} {H2 : Hp} {R : Option Int → Hp → Prop}, XO X e ρ ρ' n → ST E (some (aV v0) :: some (aD X.K (.list es)) :: (T ++ ρ)) (some x :: some v :: (t ++ σ)) H2 → (∀ H3, ST E (some (aV v0) :: some (aD X.K (.list es)) :: (T ++ ρ')) (some x :: some v :: (t ++ σ)) H3 → R n H3) → uO X e σ H2 R := fun {e n ρ ρ' x H2 R} h st k => by
    match e, n, h with
    | none, none, h =>
      cases (show ρ = ρ' from h)
      exact k _ st
    | some e, some n, h =>
      refine (show XE X e ρ ρ' (aD X.K (.int n)) from h) E (_ :: _ :: T) (_ :: _ :: t) σ H2 (by simp [l]) st _ fun y H3 st3 => ?_
      obtain ⟨G, F, f, cs, q⟩ := ST.top st3
      cases q
      exact ⟨n, rfl, k _ ⟨G, F, f, cs⟩⟩
  refine wG.of (pg_cut peS (uO_po lo) (uO_po hi)) (ho E (_ :: T) (_ :: t) σ H (by simp [l]) st _ fun x H1 st1 => part hl st1 fun H2 st2 => part hh st2 fun H3 st3 => ?_)
  have e0 := ST.topV st3
  subst e0
  obtain ⟨G, F, f, c, qv⟩ := ST.top (ST.pop st3)
  obtain ⟨F1, F2, e1, ⟨p, vs, F', e2, e3, h1, c1⟩, go⟩ := O.get l c
  obtain ⟨q1, q2⟩ := csD c1
  subst e2 e3 q2
  have hp : G p = none := f.dis p (e1.symm.subset (by simp))
  cases qv with
  | lst hb hq =>
    rename_i b ys
    have hne : p ≠ b := fun e => by rw [e, hb] at hp; cases hp
    refine ⟨p, b, vs, ys, rfl, rfl, h1, f.gh _ _ hb, hne, by rw [q1.len, hq.len]; exact Nat.le_trans hz (by decide), k _ _ ?_⟩
    have f1 := f.perm e1
    have f2 : Frm ⟨G, H3, [p]⟩ G H3 [p] := (f1.less (List.sublist_append_left _ _)).start
    have f3 := Frm.write (o := .lst (splC vs i j ys)) f2
    obtain ⟨f5, st5⟩ := f.step e1 f3
    obtain ⟨F6, e8, c4⟩ := go (.refl _) f5.gh st5 (B := aLD X.K (splC ds i j es)) (F1' := [p]) ⟨p, _, [], rfl, rfl, upd_same, csD' (dq_spl i j q1 hq)⟩
    exact ⟨G, F6, f5.perm e8.symm, c4⟩
theorem xc_cut {α : Type} [Cd α] {xs ys : List α} (ho : XE X o ρ ρ (aV v0)) (hl : XO X lo ρ ρ1 i) (hh : XO X hi ρ1 ρ2 j) (O : Own ρ2 v0 (aLD X.K (xs.map Cd.d)) w) (hz : xs.length + ys.length ≤ 1000000) : XP X (.Subscript o (.Slice lo hi none p2) pos) (aD X.K (Cd.d ys)) ρ (w (aLD X.K ((splC xs i j ys).map Cd.d))) := by
  have q := xp_cut (es := ys.map Cd.d) (pos := pos) (p2 := p2) ho hl hh O (by simpa using hz)
  rw [splC_map] at q
  exact q
end
end Mr

set_option Elab.async false
set_option linter.all false
set_option maxRecDepth 100000
/-! owned lists of owned lists -/
namespace Mr
open PySem PySem.Spec PyProof.Rows L2
/-- an owned list of owned lists of data -/
def aLO (K : PySem.W.Frag) {α : Type} [Cd α] (xss : List (List α)) : OA := aL (xss.map fun xs => aLD K (xs.map Cd.d))
section
variable {K : PySem.W.Frag} {α : Type} [Cd α] {ρ : Cl} {v0 : V} {w : OA → Cl}
theorem lo_dp {G H : Hp} (e : Ex G H) : ∀ {xss : List (List α)} {vs : List V} {F : List Addr}, Cs G H ((xss.map fun xs => aLD K (xs.map Cd.d)).map some) (vs.map some) F → DpAll K H vs (xss.map Cd.d)
  | [], [], _, _ => .nil
  | [], _ :: _, _, h => h.elim
  | _ :: _, [], _, h => h.elim
  | xs :: xss, x :: vs, F, h => by
    obtain ⟨v, F1, F2, e1, e2, a, c⟩ := h
    cases e1
    obtain ⟨p, us, F', e3, e4, h1, c1⟩ := a
    obtain ⟨q1, q2⟩ := csD c1
    subst e3
    exact .cons (.lst (.inl (.inl h1)) (DqAll.dp _ _ (DqAll.mono e _ _ q1))) (lo_dp e c)
theorem rdLO {xss : List (List α)} (O : Own ρ v0 (aLO K xss) w) : Rda K ρ (aV v0) (Cd.d xss) := fun l c e p => by
  obtain ⟨e0, _⟩ := p
  obtain ⟨F1, F2, e1, ⟨q, vs, F', e2, e3, h1, c1⟩, go⟩ := O.get l c
  subst e0
  subst e2
  exact .lst (.inl (.inl h1)) (lo_dp e c1)
theorem rdLOF {xss : List (List α)} : Rda K ρ (aLO K xss) (Cd.d xss) := fun l c e p => by
  obtain ⟨q, vs, F', e2, e3, h1, c1⟩ := p
  subst e2
  exact .lst (.inl (.inl h1)) (lo_dp e c1)
theorem rtyLO {xss : List (List α)} (O : Own ρ v0 (aLO K xss) w) : Rty K ρ (aV v0) "list" := fun l c e p => by
  obtain ⟨e0, _⟩ := p
  obtain ⟨F1, F2, e1, ⟨q, vs, F', e2, e3, h1, c1⟩, go⟩ := O.get l c
  subst e0
  subst e2
  exact sql_ty (.inl (.inl h1))
end
theorem xe_stE {X : Cx} {e : Expr} {ρ ρ1 : Cl} {A : OA} (ρ1' : Cl) (h : XE X e ρ ρ1 A) (q : ρ1 = ρ1' := by rfl) : XE X e ρ ρ1' A := q ▸ h
/-- items by their values -/
def pinned (vs : List V) (As : List OA) : List OA := List.zipWith pin vs As
theorem pinned_len {vs : List V} {As : List OA} (h : vs.length = As.length) : (pinned vs As).length = As.length := by
  unfold pinned
  rw [List.length_zipWith]
  omega
theorem pinned_at {vs : List V} {As : List OA} {k : Nat} {v : V} {A : OA} (h1 : vs[k]? = some v) (h2 : As[k]? = some A) : (pinned vs As)[k]? = some (pin v A) := by
  unfold pinned
  rw [List.getElem?_zipWith, h1, h2]
theorem pinned_set : ∀ {vs : List V} {As : List OA} {k : Nat} {v : V} {A : OA}, vs[k]? = some v → (pinned vs As).set k (pin v A) = pinned vs (As.set k A)
  | [], _, _, _, _, h => by simp at h
  | _ :: _, [], k, _, _, h => by simp [pinned]
  | x :: vs, B :: As, 0, v, A, h => by
    have : x = v := by simpa using h
    subst this
    rfl
  | x :: vs, B :: As, k + 1, v, A, h => by
    have ih := pinned_set (vs := vs) (As := As) (k := k) (v := v) (A := A) (by simpa using h)
    show pin x B :: (pinned vs As).set k (pin v A) = pin x B :: pinned vs (As.set k A)
    rw [ih]
theorem Cs.pinAll {G H : Hp} : ∀ {As : List OA} {vs : List V} {F : List Addr}, Cs G H (As.map some) (vs.map some) F → Cs G H ((pinned vs As).map some) (vs.map some) F
  | [], [], _, h => h
  | [], _ :: _, _, h => h.elim
  | _ :: _, [], _, h => h.elim
  | A :: As, x :: vs, F, h => by
    obtain ⟨v, F1, F2, e1, e2, a, c⟩ := h
    cases e1
    exact ⟨x, F1, F2, rfl, e2, ⟨rfl, a⟩, Cs.pinAll c⟩
theorem pins_eq {G H : Hp} {As : List OA} {us vs : List V} {F : List Addr} (c : Cs G H (As.map some) (us.map some) F) (hl : As.length = vs.length) (hp : ∀ (k : Nat) v, vs[k]? = some v → ∃ A, As[k]? = some (pin v A)) : us = vs := by
  have hu : us.length = As.length := by have := c.len; simpa using this.symm
  refine List.ext_getElem? fun k => ?_
  by_cases q : k < vs.length
  · obtain ⟨A, hA⟩ := hp k vs[k] (List.getElem?_eq_getElem q)
    obtain ⟨v, F1, F2, e1, e2, ⟨e3, _⟩, _⟩ := c.getP hA
    rw [e1, e3, List.getElem?_eq_getElem q]
  · rw [List.getElem?_eq_none (by omega), List.getElem?_eq_none (by omega)]
theorem wk_setn : ∀ (ρ : Cl) (j : Nat), Wk ρ (ρ.set j none)
  | [], _ => trivial
  | none :: ρ, 0 => Wk.refl ρ
  | some _ :: ρ, 0 => Wk.refl ρ
  | none :: ρ, j + 1 => wk_setn ρ j
  | some _ :: ρ, j + 1 => ⟨rfl, wk_setn ρ j⟩
section
variable {X : Cx} {α ω : Type} [Cd α] {sts rest body : List Stmt} {tg iter : Expr} {pos : Pos} {m : Option ω} {Φ : ω → Ent → Ends → Prop} {ρ ρ1 : Cl} {v0 : V} {vs : List V}
theorem xg_pinAll (i : Nat) {As : List OA} (h : ρ[i]? = some (some (pin v0 (aL As)))) (kk : ∀ vs : List V, vs.length = As.length → XG X sts (ρ.set i (some (pin v0 (aL (pinned vs As))))) m Φ) : XG X sts ρ m Φ := fun r hr E σ H D st q => by
  obtain ⟨G, F, f, c⟩ := st
  obtain ⟨F1, F2, e1, ⟨p, vs, F', e2, e3, h1, c1⟩, go⟩ := (Own.slot i h).get (T := []) (t := []) rfl c
  subst e2 e3
  obtain ⟨F5, a5, c5⟩ := go (.refl _) f.gh (fun b _ o q => q) (B := aL (pinned vs As)) (F1' := p :: F') ⟨p, vs, F', rfl, rfl, h1, c1.pinAll⟩
  exact kk vs (by have := c1.len; simpa using this.symm) r hr E σ H D ⟨G, F5, f.perm (e1.trans a5.symm), c5⟩ q
def PinsOk (v0 : V) (vs : List V) (L : Cl) : Prop := ∃ As w, Own L v0 (aL As) w ∧ As.length = vs.length ∧ ∀ (k : Nat) v, vs[k]? = some v → ∃ A, As[k]? = some (pin v A)
theorem xi_pins (h : XE X iter ρ ρ1 (aV v0)) (hi : PinsOk v0 vs ρ1) : XI X tg iter ρ ρ1 (PinsOk v0 vs) (List.zip (List.range vs.length) vs) (fun x => aV x.2) := fun E T t σ H l st R k => by
  have hlen : (List.zip (List.range vs.length) vs).length = vs.length := by rw [List.length_zip, List.length_range]; omega
  have rd : ∀ {E : Ent} {T : Cl} {t : L2.St} {L : Cl} {C : L2.St} {H : Hp}, T.length = t.length → PinsOk v0 vs L → ST E (T ++ L) (t ++ C) H → ∃ p G F, v0 = .ref p ∧ SqL X.K H p vs ∧ Frm E G H F ∧ Cs G H (T ++ L) (t ++ C) F := fun {E T t L C H} l hL st => by
    obtain ⟨G, F, f, c⟩ := st
    obtain ⟨As, w, O, hl, hp⟩ := hL
    obtain ⟨F1, F2, e1, ⟨p, us, F', e2, e3, h1, c1⟩, go⟩ := O.get l c
    have e := pins_eq c1 hl hp
    subst e
    exact ⟨p, G, F, e2, .inl (.inl h1), f, c⟩
  refine wI.of (pi_list peS) (h E T t σ H l st _ fun v H1 st1 => ?_)
  obtain ⟨G, F, Fv, f, cs, e0, _⟩ := ST.one st1
  have st2 : ST E (T ++ ρ1) (t ++ σ) H1 := ⟨G, F, f, cs⟩
  obtain ⟨p, G', F', e1, h1, _, _⟩ := rd l hi st2
  subst e0 e1
  refine ⟨p, rfl, ⟨_, h1⟩, k _ E _ (.refl _) st2 ⟨fun n hn T t L C H l ok st => ?_, fun T t L C H l ok st => ?_, fun n x v H H' hx T t L C l ok st y => ?_⟩⟩
  · obtain ⟨p', G2, F2, e1, h1, _, _⟩ := rd l ok st
    cases e1
    have hl : n < vs.length := by rw [hlen] at hn; exact hn
    exact ⟨vs, vs[n], h1, List.getElem?_eq_getElem hl⟩
  · obtain ⟨p', G2, F2, e1, h1, _, _⟩ := rd l ok st
    cases e1
    exact ⟨vs, h1, by rw [hlen]; exact Nat.le_refl _⟩
  · obtain ⟨p', G2, F2, e1, h1, f2, c2⟩ := rd l ok st
    cases e1
    obtain ⟨e1, e2⟩ := y
    have e3 := e2 vs h1
    obtain ⟨a, b⟩ := x
    rw [List.getElem?_zip_eq_some] at hx
    have e4 : v = b := Option.some.inj (e3.symm.trans hx.2)
    subst e1 e4
    exact ⟨G2, F2, f2, v, [], F2, rfl, rfl, ⟨rfl, rfl⟩, c2⟩
open Classical in
/-- for x in xs: x.append(y), and neither of them is looked at behind it -/
theorem xg_forApp (i j : Nat) {xss : List (List α)} {y : α} (hij : i ≠ j) (hi : ρ[i]? = some (some (pin v0 (aLO X.K xss)))) (hj : j < ρ.length) (hb : xss.length ≤ 400000 ∧ ∀ xs ∈ xss, xs.length ≤ 400000)
    (hn : ∀ (ρ' : Cl) (A : OA), ρ'[i]? = some (some (pin v0 A)) → XE X iter ρ' ρ' (aV v0)) (ht : ∀ (ρ' : Cl) (A : OA), j < ρ'.length → XP X tg A ρ' (ρ'.set j (some A)))
    (hx : ∀ (ρ' : Cl) (v : V) (xs : List α) (w : OA → Cl), Own ρ' v (aLD X.K (xs.map Cd.d)) w → ρ'[j]? = some (some (aV v)) → xs.length < 1000000 → XG X body ρ' (some ()) (oS fun _ : Unit => w (aLD X.K ((xs ++ [y]).map Cd.d))))
    (hp : PassesOwn (model X.prog X.w) X.A X.env X.xe) (hc : X.calm = true) (kk : XG X rest ((ρ.set j none).set i none) m Φ) (hs : ∀ x, foldedSetIterable iter X.env x = pure x := by intro _; rfl) :
    XG X (.For tg iter body [] pos :: rest) ρ m Φ := by
  have hil : i < ρ.length := lt_of_get hi
  refine xg_pinAll i hi fun vs hl => ?_
  have hl : vs.length = xss.length := by rw [hl, List.length_map]
  obtain ⟨el, hel⟩ : ∃ el : List α → OA, el = fun xs => aLD X.K (xs.map Cd.d) := ⟨_, rfl⟩
  rw [← hel]
  let P : List (List α) → OA := fun s => aL (pinned vs (s.map el))
  let R : Cl := ρ.set j none
  let N : List (List α) → Cl := fun s => R.set i (some (pin v0 (P s)))
  have hRl : R.length = ρ.length := List.length_set
  have hNi : ∀ s, (N s)[i]? = some (some (pin v0 (P s))) := fun s => List.getElem?_set_self (by rw [hRl]; exact hil)
  have hNj : ∀ s, (N s)[j]? = some none := fun s => by
    show (R.set i _)[j]? = _
    rw [List.getElem?_set_ne hij]
    exact List.getElem?_set_self hj
  have hNl : ∀ s, (N s).length = ρ.length := fun s => by show (R.set i _).length = _; rw [List.length_set, hRl]
  let f : List (List α) → Nat × V → Option (List (List α)) := fun s x => if vs[x.1]? = some x.2 ∧ s.length = vs.length ∧ (s.getD x.1 []).length < 1000000 then some (s.set x.1 (s.getD x.1 [] ++ [y])) else none
  have fold : ∀ (l : List (Nat × V)) (s : List (List α)) (b : Nat), (∀ p ∈ l, vs[p.1]? = some p.2) → s.length = vs.length → (∀ xs ∈ s, xs.length ≤ b) → b + l.length < 1000000 → ∃ s', l.foldlM f s = some s' := by
    intro l
    induction l with
    | nil => intro s b _ _ _ _; exact ⟨s, rfl⟩
    | cons p l ih =>
      intro s b h1 h2 h3 h4
      have hp := h1 p (by simp)
      have hk : p.1 < s.length := by rw [h2]; exact lt_of_get hp
      have hg : s.getD p.1 [] = s[p.1] := by rw [List.getD_eq_getElem?_getD, List.getElem?_eq_getElem hk]; rfl
      have hgl : (s.getD p.1 []).length ≤ b := by rw [hg]; exact h3 _ (List.getElem_mem hk)
      have h4' : b + (l.length + 1) < 1000000 := by simpa using h4
      have e : f s p = some (s.set p.1 (s.getD p.1 [] ++ [y])) := by
        show (if _ then _ else _) = _
        rw [if_pos ⟨hp, h2, by omega⟩]
      obtain ⟨s', e'⟩ := ih (s.set p.1 (s.getD p.1 [] ++ [y])) (b + 1) (fun q hq => h1 q (by simp [hq])) (by rw [List.length_set]; exact h2) (fun xs hxs => by
        rcases List.mem_or_eq_of_mem_set hxs with z | z
        · have := h3 xs z; omega
        · rw [z, List.length_append]; simp only [List.length_cons, List.length_nil]; omega) (by omega)
      exact ⟨s', by rw [List.foldlM_cons, e]; exact e'⟩
  have hmem : ∀ p ∈ List.zip (List.range vs.length) vs, vs[p.1]? = some p.2 := fun p hp => by
    obtain ⟨n, hn⟩ := List.mem_iff_getElem?.mp hp
    obtain ⟨a, b⟩ := p
    rw [List.getElem?_zip_eq_some] at hn
    have e := hn.1
    have hlt : n < vs.length := lt_of_get hn.2
    rw [List.getElem?_range hlt] at e
    have : n = a := Option.some.inj e
    subst this
    exact hn.2
  obtain ⟨s', hf⟩ := fold _ xss 400000 hmem hl.symm hb.2 (by rw [List.length_zip, List.length_range]; omega)
  have pok : ∀ s : List (List α), s.length = vs.length → ∀ {L : Cl}, L[i]? = some (some (pin v0 (P s))) → PinsOk v0 vs L := fun s hsl L h => ⟨_, _, Own.slot i h, by rw [pinned_len (by rw [List.length_map]; exact hsl.symm), List.length_map, hsl], fun k v hk => by
    have hks : k < s.length := by rw [hsl]; exact lt_of_get hk
    exact ⟨el s[k], pinned_at hk (by rw [List.getElem?_map, List.getElem?_eq_getElem hks]; rfl)⟩⟩
  -- the states with as many lists as there are values
  let N1 : {s : List (List α) // s.length = vs.length} → Cl := fun s => N s.1
  let f1 : {s : List (List α) // s.length = vs.length} → Nat × V → Option {s : List (List α) // s.length = vs.length} := fun s x => if vs[x.1]? = some x.2 ∧ (s.1.getD x.1 []).length < 1000000 then some ⟨s.1.set x.1 (s.1.getD x.1 [] ++ [y]), by rw [List.length_set]; exact s.2⟩ else none
  have fold1 : ∀ (l : List (Nat × V)) (s : {s : List (List α) // s.length = vs.length}) (r : List (List α)), l.foldlM f s.1 = some r → ∃ h, l.foldlM f1 s = some ⟨r, h⟩ := by
    intro l
    induction l with
    | nil =>
      intro s r h
      have h : some s.1 = some r := h
      cases h
      exact ⟨s.2, rfl⟩
    | cons p l ih =>
      intro s r h
      rw [List.foldlM_cons] at h
      by_cases c : vs[p.1]? = some p.2 ∧ (s.1.getD p.1 []).length < 1000000
      · have e : f s.1 p = some (s.1.set p.1 (s.1.getD p.1 [] ++ [y])) := by
          show (if _ then _ else _) = _
          rw [if_pos ⟨c.1, s.2, c.2⟩]
        have e1 : f1 s p = some ⟨s.1.set p.1 (s.1.getD p.1 [] ++ [y]), by rw [List.length_set]; exact s.2⟩ := by
          show (if _ then _ else _) = _
          rw [if_pos c]
        rw [e] at h
        obtain ⟨hh, e2⟩ := ih ⟨s.1.set p.1 (s.1.getD p.1 [] ++ [y]), by rw [List.length_set]; exact s.2⟩ r h
        exact ⟨hh, by rw [List.foldlM_cons, e1]; exact e2⟩
      · have e : f s.1 p = none := by
          show (if _ then _ else _) = _
          rw [if_neg fun z => c ⟨z.1, z.2.2⟩]
        rw [e] at h
        cases h
  obtain ⟨hh, hf1⟩ := fold1 _ ⟨xss, hl.symm⟩ s' hf
  have em : m = ((List.zip (List.range vs.length) vs).foldlM f1 ⟨xss, hl.symm⟩).bind fun _ => m := by rw [hf1]; rfl
  rw [em]
  have hcomm : (ρ.set i (some (pin v0 (P xss)))).set j none = N xss := by
    show _ = (ρ.set j none).set i _
    rw [List.set_comm _ _ hij]
  refine xg_for (N := N1) (In := fun x s => (N s.1).set j (some (aV x.2))) hp hc (xi_pins (hn _ (P xss) (List.getElem?_set_self hil)) (pok xss hl.symm (List.getElem?_set_self hil))) ?_ (fun s => pok s.1 s.2 (hNi s.1)) (fun x s => ht _ _ (by show j < (N s.1).length; rw [hNl]; exact hj)) (fun x s => ?_) (fun s => ?_) hs
  · show Wk _ (N xss)
    rw [← hcomm]
    exact wk_setn _ _
  · by_cases c : vs[x.1]? = some x.2 ∧ (s.1.getD x.1 []).length < 1000000
    · have e1 : f1 s x = some ⟨s.1.set x.1 (s.1.getD x.1 [] ++ [y]), by rw [List.length_set]; exact s.2⟩ := by
        show (if _ then _ else _) = _
        rw [if_pos c]
      rw [e1]
      have hk : x.1 < s.1.length := by rw [s.2]; exact lt_of_get c.1
      have hg : s.1.getD x.1 [] = s.1[x.1] := by rw [List.getD_eq_getElem?_getD, List.getElem?_eq_getElem hk]; rfl
      have hIi : ((N s.1).set j (some (aV x.2)))[i]? = some (some (pin v0 (P s.1))) := by rw [List.getElem?_set_ne (Ne.symm hij)]; exact hNi s.1
      have hIj : ((N s.1).set j (some (aV x.2)))[j]? = some (some (aV x.2)) := List.getElem?_set_self (by rw [hNl]; exact hj)
      have hat : (pinned vs (s.1.map el))[x.1]? = some (pin x.2 (aLD X.K ((s.1.getD x.1 []).map Cd.d))) := pinned_at c.1 (by rw [List.getElem?_map, List.getElem?_eq_getElem hk, hg, hel]; rfl)
      have q := hx _ x.2 (s.1.getD x.1 []) _ (Own.itm (Own.slot i hIi) x.1 hat) hIj c.2
      intro o ho E σ H D st qq
      cases ho
      refine q () rfl E σ H D st fun σ' H' st' => qq σ' H' (st'.wk ?_)
      have es : pinned vs ((s.1.set x.1 (s.1.getD x.1 [] ++ [y])).map el) = (pinned vs (s.1.map el)).set x.1 (pin x.2 (aLD X.K ((s.1.getD x.1 [] ++ [y]).map Cd.d))) := by
        rw [List.map_set, hel, ← pinned_set c.1]
      show Wk (((N s.1).set j (some (aV x.2))).set i (some (pin v0 (aL ((pinned vs (s.1.map el)).set x.1 (pin x.2 (aLD X.K ((s.1.getD x.1 [] ++ [y]).map Cd.d)))))))) (N (s.1.set x.1 (s.1.getD x.1 [] ++ [y])))
      rw [← es]
      have e2 : ((N s.1).set j (some (aV x.2))).set i (some (pin v0 (P (s.1.set x.1 (s.1.getD x.1 [] ++ [y]))))) = (N (s.1.set x.1 (s.1.getD x.1 [] ++ [y]))).set j (some (aV x.2)) := by
        show ((R.set i _).set j _).set i _ = (R.set i _).set j _
        rw [List.set_comm _ _ (Ne.symm hij), set_set]
      show Wk (((N s.1).set j (some (aV x.2))).set i (some (pin v0 (P (s.1.set x.1 (s.1.getD x.1 [] ++ [y])))))) _
      rw [e2]
      have e3 : N (s.1.set x.1 (s.1.getD x.1 [] ++ [y])) = ((N (s.1.set x.1 (s.1.getD x.1 [] ++ [y]))).set j (some (aV x.2))).set j none := by rw [set_set, set_get (hNj _)]
      conv => rhs; rw [e3]
      exact wk_setn _ _
    · have e1 : f1 s x = none := by
        show (if _ then _ else _) = _
        rw [if_neg c]
      rw [e1]
      intro o ho
      cases ho
  · intro o ho E σ H D st qq
    refine kk o ho E σ H D (st.wk ?_) qq
    show Wk (R.set i _) (R.set i none)
    have e : R.set i none = (R.set i (some (pin v0 (P s.1)))).set i none := by rw [set_set]
    rw [e]
    exact wk_setn _ _
end
end Mr

set_option Elab.async false
set_option linter.all false
set_option maxRecDepth 100000
/-! things made of things: places at any depth, named values there, things handed over; calls that borrow from places -/
namespace Mr
open PySem PySem.Spec PyProof.Rows L2
structure Ctn (c : List OA → OA) : Prop where
  kid : ∀ {G H : Hp} {v : V} {F : List Addr} {As : List OA} {k : Nat} {A : OA}, (c As).P G H v F → As[k]? = some A →
    ∃ u F1 F2, F.Perm (F1 ++ F2) ∧ A.P G H u F1 ∧ ∀ {G' H' : Hp} {F1' : List Addr} {B : OA}, Ex G G' → Ex G' H' → (∀ b ∈ F2, ∀ o, H b = some o → H' b = some o) → B.P G' H' u F1' → ∃ F', F'.Perm (F1' ++ F2) ∧ (c (As.set k B)).P G' H' v F'
  imp : ∀ {As Bs : List OA}, ImpL As Bs → Imp (c As) (c Bs)
theorem cs_kid {G H : Hp} {As : List OA} {vs : List V} {F' : List Addr} {k : Nat} {A : OA} (c1 : Cs G H (As.map some) (vs.map some) F') (hk : As[k]? = some A) :
    ∃ u F1 F2, F'.Perm (F1 ++ F2) ∧ A.P G H u F1 ∧ ∀ {G' H' : Hp} {F1' : List Addr} {B : OA}, Ex G G' → Ex G' H' → (∀ b ∈ F2, ∀ o, H b = some o → H' b = some o) → B.P G' H' u F1' → ∃ F3, F3.Perm (F1' ++ F2) ∧ Cs G' H' ((As.set k B).map some) (vs.map some) F3 := by
  obtain ⟨u, Fa, Fb, ev, e4, q, c2⟩ := c1.getP hk
  refine ⟨u, Fa, Fb, e4, q, fun {G' H' F1' B} e e' kp pB => ?_⟩
  have c3 := c2.mono e e' kp
  obtain ⟨F3, a3, c4⟩ := c3.join (A := B) (v := u) (F1 := F1') (by rw [List.length_map]; exact lt_of_get hk) pB
  have e6 : (vs.map some).set k (some u) = vs.map some := set_get (by rw [List.getElem?_map, ev]; rfl)
  rw [e6] at c4
  exact ⟨F3, a3, by simpa [List.map_set] using c4⟩
theorem ctnO {C : Addr} {ns : List Str} : Ctn (aObj C ns) := ⟨fun {G H v F As k A} q hk => by
  obtain ⟨p, dx, vs, F', e2, e3, h1, hl, c1⟩ := q
  subst e2 e3
  obtain ⟨u, Fa, Fb, e4, qa, go⟩ := cs_kid c1 hk
  refine ⟨u, Fa, p :: Fb, (List.Perm.cons p e4).trans List.perm_middle.symm, qa, fun {G' H' F1' B} e e' kp pB => ?_⟩
  obtain ⟨F3, a3, c4⟩ := go e e' (fun b hb => kp b (List.mem_cons_of_mem _ hb)) pB
  exact ⟨p :: F3, (List.Perm.cons p a3).trans List.perm_middle.symm, p, dx, vs, F3, rfl, rfl, kp p (by simp) _ h1, hl, c4⟩, imp_obj⟩
theorem ctnL : Ctn aL := ⟨fun {G H v F As k A} q hk => by
  obtain ⟨p, vs, F', e2, e3, h1, c1⟩ := q
  subst e2 e3
  obtain ⟨u, Fa, Fb, e4, qa, go⟩ := cs_kid c1 hk
  refine ⟨u, Fa, p :: Fb, (List.Perm.cons p e4).trans List.perm_middle.symm, qa, fun {G' H' F1' B} e e' kp pB => ?_⟩
  obtain ⟨F3, a3, c4⟩ := go e e' (fun b hb => kp b (List.mem_cons_of_mem _ hb)) pB
  exact ⟨p :: F3, (List.Perm.cons p a3).trans List.perm_middle.symm, p, vs, F3, rfl, rfl, kp p (by simp) _ h1, c4⟩, imp_lst⟩
theorem ctnT : Ctn aT := ⟨fun {G H v F As k A} q hk => by
  obtain ⟨p, vs, F', e2, e3, h1, c1⟩ := q
  subst e2 e3
  obtain ⟨u, Fa, Fb, e4, qa, go⟩ := cs_kid c1 hk
  refine ⟨u, Fa, p :: Fb, (List.Perm.cons p e4).trans List.perm_middle.symm, qa, fun {G' H' F1' B} e e' kp pB => ?_⟩
  obtain ⟨F3, a3, c4⟩ := go e e' (fun b hb => kp b (List.mem_cons_of_mem _ hb)) pB
  exact ⟨p :: F3, (List.Perm.cons p a3).trans List.perm_middle.symm, p, vs, F3, rfl, rfl, kp p (by simp) _ h1, c4⟩, imp_tup⟩
theorem Own.kid {ρ : Cl} {a0 v0 : V} {A : OA} {c : List OA → OA} {As : List OA} {w : OA → Cl} (hc : Ctn c) (O : Own ρ a0 (c As) w) (k : Nat) (hk : As[k]? = some (pin v0 A)) : Own ρ v0 A (fun B => w (c (As.set k (pin v0 B)))) := ⟨fun {G H T t σ F} l cs => by
  obtain ⟨F1, F2, e1, q, go⟩ := O.get l cs
  obtain ⟨u, Fa, Fb, e4, ⟨e5, qa⟩, back⟩ := hc.kid q hk
  subst e5
  refine ⟨Fa, Fb ++ F2, e1.trans (by rw [← List.append_assoc]; exact List.Perm.append_right F2 e4), qa, fun {G' H' Fa' B} e e' kp pB => ?_⟩
  obtain ⟨F5, a5, q5⟩ := back e e' (fun b hb => kp b (List.mem_append_left _ hb)) (B := pin u B) (F1' := Fa') ⟨rfl, pB⟩
  obtain ⟨F6, a6, c6⟩ := go e e' (fun b hb => kp b (List.mem_append_right _ hb)) q5
  exact ⟨F6, a6.trans (by rw [← List.append_assoc]; exact List.Perm.append_right F2 a5), c6⟩⟩
/-- one item of many, in focus -/
theorem Own.foc {ρ : Cl} {a0 v0 : V} {A : OA} {c : List OA → OA} {As : List OA} {w : OA → Cl} {j : Nat} (hc : Ctn c) (O : Own ρ a0 (c (As.set j (pin v0 A))) w) (hj : j < As.length) : Own ρ v0 A (fun B => w (c (As.set j (pin v0 B)))) := by
  have q := Own.kid hc O j (List.getElem?_set_self hj)
  have e : (fun B => w (c ((As.set j (pin v0 A)).set j (pin v0 B)))) = fun B => w (c (As.set j (pin v0 B))) := by
    funext B
    rw [set_set]
  rw [e] at q
  exact q
theorem lt_mapd {α β : Type} {f : α → β} {xs : List α} {j : Nat} {x : α} (h : xs[j]? = some x) : j < (xs.map f).length := by
  rw [List.length_map]
  exact lt_of_get h
theorem map_at {α β : Type} {f : α → β} {xs : List α} {j : Nat} {x : α} (h : xs[j]? = some x) : (xs.map f)[j]? = some (f x) := by
  rw [List.getElem?_map, h]
  rfl
theorem ImpL.refl : ∀ As : List OA, ImpL As As
  | [] => .nil
  | A :: As => .cons imp_rfl (ImpL.refl As)
theorem ImpL.set : ∀ {As : List OA} {j : Nat} {A B : OA}, Imp A B → ImpL (As.set j A) (As.set j B)
  | [], _, _, _, _ => .nil
  | _ :: As, 0, _, _, h => .cons h (ImpL.refl As)
  | _ :: As, j + 1, _, _, h => .cons imp_rfl (ImpL.set h)
theorem imp_trans {A B C : OA} (h : Imp A B) (k : Imp B C) : Imp A C := fun q => k (h q)
theorem imp_pinned {A B : OA} {v0 : V} (h : Imp A B) : Imp (pin v0 A) B := fun q => h q.2
/-- the focus is left -/
theorem imp_foc {α : Type} {f : α → OA} {xs : List α} {j : Nat} {y : α} {A : OA} {c : List OA → OA} (hc : Ctn c) (h : Imp A (f y)) : Imp (c ((xs.map f).set j A)) (c ((xs.set j y).map f)) := by
  rw [List.map_set]
  exact hc.imp (ImpL.set h)
theorem imp_foc0 {α : Type} {f : α → OA} {xs : List α} {j : Nat} {x : α} {A : OA} {c : List OA → OA} (hc : Ctn c) (hx : xs[j]? = some x) (h : Imp A (f x)) : Imp (c ((xs.map f).set j A)) (c (xs.map f)) := by
  have e : xs.set j x = xs := set_get hx
  intro G H v F q
  have q2 : (c ((xs.set j x).map f)).P G H v F := imp_foc hc h q
  rwa [e] at q2
section
variable {X : Cx} {ω : Type} {sts : List Stmt} {m : Option ω} {Φ : ω → Ent → Ends → Prop} {ρ ρ1 ρ2 : Cl} {A A0 B : OA} {a b e o : Expr} {es : List Expr} {pos p apos : Pos} {As Bs : List OA} {u v v0 a0 : V} {c : List OA → OA} {w : OA → Cl}
theorem st_pinC {E : Ent} {T : Cl} {t σ : L2.St} {H : Hp} (l : T.length = t.length) (st : ST E (T ++ ρ) (t ++ σ) H) (hc : Ctn c) (O : Own ρ a0 (c As) w) {k : Nat} (hk : As[k]? = some A) : ∃ v, ST E (T ++ w (c (As.set k (pin v A)))) (t ++ σ) H := by
  obtain ⟨G, F, f, cs⟩ := st
  obtain ⟨F1, F2, e1, q1, go⟩ := O.get l cs
  obtain ⟨u, Fa, Fb, e4, qa, back⟩ := hc.kid q1 hk
  obtain ⟨F5, a5, q5⟩ := back (.refl _) f.gh (fun b _ o q => q) (B := pin u A) (F1' := Fa) ⟨rfl, qa⟩
  obtain ⟨F6, a6, c6⟩ := go (.refl _) f.gh (fun b _ o q => q) q5
  exact ⟨u, G, F6, f.perm (e1.trans ((List.Perm.append_right F2 (e4.trans a5.symm)).trans a6.symm)), c6⟩
/-- a part's value gets a name -/
theorem xg_pinC (hc : Ctn c) (O : Own ρ a0 (c As) w) (k : Nat) (hk : As[k]? = some A) (kk : ∀ v, XG X sts (w (c (As.set k (pin v A)))) m Φ) : XG X sts ρ m Φ := fun r hr E σ H D st q => by
  obtain ⟨v, st2⟩ := st_pinC (T := []) (t := []) rfl st hc O hk
  exact kk v r hr E σ H D st2 q
theorem xtm_pinC {e : Expr} {m : Option Bool} (hc : Ctn c) (O : Own ρ a0 (c As) w) (k : Nat) (hk : As[k]? = some A) (wk : Imp (c (As.set k (pin v A))) (c As) → True) (kk : ∀ v, ∀ b, m = some b → ∀ (E : Ent) (T : Cl) (t σ : L2.St) (H : Hp), T.length = t.length → ST E (T ++ w (c (As.set k (pin v A)))) (t ++ σ) H → ∀ Q : Bool → Hp → Prop, (∀ H', ST E (T ++ ρ) (t ++ σ) H' → Q b H') → wT X e σ H Q) : XTm X e ρ m := fun b hb E T t σ H l st Q q => by
  obtain ⟨v, st2⟩ := st_pinC l st hc O hk
  exact kk v b hb E T t σ H l st2 Q q
theorem xe_pinC {ρ' : Cl} (hc : Ctn c) (O : Own ρ a0 (c As) w) (k : Nat) (hk : As[k]? = some A) (kk : ∀ v, XE X e (w (c (As.set k (pin v A)))) ρ' B) : XE X e ρ ρ' B := fun E T t σ H l st Q q => by
  obtain ⟨v, st2⟩ := st_pinC l st hc O hk
  exact kk v E T t σ H l st2 Q q
theorem xem_pinC {N : ω → Cl} {R : ω → OA} (hc : Ctn c) (O : Own ρ a0 (c As) w) (k : Nat) (hk : As[k]? = some A) (kk : ∀ v, XEm X e (w (c (As.set k (pin v A)))) m N R) : XEm X e ρ m N R := fun o ho => xe_pinC hc O k hk fun v => kk v o ho
/-- what stands at the place is taken out of it -/
theorem xe_own (he : XE X e ρ ρ1 (aV u)) (O : Own ρ1 u B w) : XE X e ρ (w aN) B := fun E T t σ H l st Q k => he E T t σ H l st Q fun v H' st1 => k v H' (by
  obtain ⟨G, F, Fv, f, cs, e0, _⟩ := ST.one st1
  subst e0
  obtain ⟨F1, F2, e1, q1, go⟩ := O.get l cs
  obtain ⟨F3, a3, c3⟩ := go (.refl _) f.gh (fun b _ o q => q) (B := aN) (F1' := []) rfl
  exact ⟨G, F1 ++ F3, f.perm (e1.trans (List.Perm.append_left F1 (by simpa using a3.symm))), v, F1, F3, rfl, rfl, q1, c3⟩)
theorem xe_wk (he : XE X e ρ ρ1 A) (h : Wk ρ1 ρ2) : XE X e ρ ρ2 A := fun E T t σ H l st Q k => he E T t σ H l st Q fun v H' st1 => k v H' (ST.wkT (T := some A :: T) (t := some v :: t) (by simp [l]) st1 h)
theorem xe_impV (he : XE X e ρ ρ1 A) (h : Imp A B) : XE X e ρ ρ1 B := fun E T t σ H l st Q k => he E T t σ H l st Q fun v H' st1 => k v H' (by
  obtain ⟨G, F, f, x, F1, F2, e1, e2, q, c⟩ := st1
  exact ⟨G, F, f, x, F1, F2, e1, e2, h q, c⟩)
/-- a name that hands its thing over and goes on to name it -/
theorem xe_nmShare (i : Nat) {x : Str} (h : ρ[i]? = some (some (pin v0 A))) (hN : X.N[i]? = some x := by rfl) (hv : Vis X.env.scope x := by first | exact Or.inl rfl | exact Or.inr (Or.inl rfl) | exact Or.inr (Or.inr rfl)) (hd : (x == ("__debug__" : Str)) = false := by decide)
    (hcd : (x == ("__classdict__" : Str)) = false := by decide) : XE X (.Name x pos) ρ (ρ.set i (some (aV v0))) (pin v0 A) := fun E T t σ H l st Q k => by
  obtain ⟨G, F, f, cs⟩ := st
  obtain ⟨v, F1, F2, e1, e2, ⟨e0, q⟩, c2⟩ := cs.slot l h
  subst e0
  obtain ⟨F3, a3, c3⟩ := c2.back (A := aV v) (F1 := []) l (lt_of_get h) e1 ⟨rfl, rfl⟩
  exact wE.of (pe_var hN hv hd hcd) ⟨v, e1, k v H ⟨G, F1 ++ F3, f.perm (e2.trans (List.Perm.append_left F1 (by simpa using a3.symm))), v, F1, F3, rfl, rfl, ⟨rfl, q⟩, c3⟩⟩
/-! items at places -/
theorem xe_itV {j : Nat} {n : Int} (ha : XE X a ρ ρ1 (aV v0)) (hb : XE X b ρ1 ρ2 (aD X.K (.int n))) (O : Own ρ2 v0 (aL As) w) (hn : ixN As.length n = some j) (h : As[j]? = some (pin u A)) (hs : PlainIx b := by exact fun _ _ => rfl) :
    XE X (.Subscript a b pos) ρ ρ2 (aV u) := fun E T t σ H l st Q k =>
  wE.of (pe_ix ix_seq peS peS hs) (ha E T t σ H l st _ fun x H1 st1 => hb E (_ :: T) (_ :: t) σ H1 (by simp [l]) st1 _ fun y H2 st2 => by
    obtain ⟨G, F, Fv, Fw, f, cs, ⟨q1, _⟩, q2, _⟩ := ST.two st2
    cases q2
    obtain ⟨F1, F2, e1, ⟨p, vs, F', e4, e5, h1, c1⟩, go⟩ := O.get l cs
    subst q1 e4
    obtain ⟨w', Fa, Fb, hw, _, ⟨e7, _⟩, _⟩ := c1.getP h
    subst e7
    have hl : vs.length = As.length := by simpa using c1.len.symm
    exact .inl ⟨p, vs, n, w', rfl, rfl, .inl (.inl h1), by unfold atI; rw [hl, hn]; exact hw, k w' H2 ⟨G, F, f, w', [], F, rfl, rfl, ⟨rfl, rfl⟩, cs⟩⟩)
theorem xe_itT {j : Nat} {n : Int} (ha : XE X a ρ ρ1 (aV v0)) (hb : XE X b ρ1 ρ2 (aD X.K (.int n))) (O : Own ρ2 v0 (aT As) w) (hn : ixN As.length n = some j) (h : As[j]? = some (pin u A)) (hs : PlainIx b := by exact fun _ _ => rfl) :
    XE X (.Subscript a b pos) ρ ρ2 (aV u) := fun E T t σ H l st Q k =>
  wE.of (pe_ix ix_tup peS peS hs) (ha E T t σ H l st _ fun x H1 st1 => hb E (_ :: T) (_ :: t) σ H1 (by simp [l]) st1 _ fun y H2 st2 => by
    obtain ⟨G, F, Fv, Fw, f, cs, ⟨q1, _⟩, q2, _⟩ := ST.two st2
    cases q2
    obtain ⟨F1, F2, e1, ⟨p, vs, F', e4, e5, h1, c1⟩, go⟩ := O.get l cs
    subst q1 e4
    obtain ⟨w', Fa, Fb, hw, _, ⟨e7, _⟩, _⟩ := c1.getP h
    subst e7
    have hl : vs.length = As.length := by simpa using c1.len.symm
    exact ⟨p, vs, n, w', rfl, rfl, SqT.of h1, by unfold atI; rw [hl, hn]; exact hw, k w' H2 ⟨G, F, f, w', [], F, rfl, rfl, ⟨rfl, rfl⟩, cs⟩⟩)
end
/-! ### calls that borrow from places -/
/-- arguments, some of which are lent from places: (the argument, its value) -/
def XX (X : Cx) (es : List Expr) (ρ ρ' : Cl) (As : List OA) (ls : List (Nat × V)) : Prop := ∀ (E : Ent) (T : Cl) (t σ : L2.St) (H : Hp), T.length = t.length → ST E (T ++ ρ) (t ++ σ) H →
  ∀ Q : List V → Hp → Prop, (∀ vs H', vs.length = As.length → (∀ p ∈ ls, vs[p.1]? = some p.2) → ST E (As.map some ++ (T ++ ρ')) (vs.map some ++ (t ++ σ)) H' → Q vs H') → wA X es σ H Q
/-- what is lent comes back -/
inductive Fill (ls : List (Nat × V)) : Cl → Cl → Cl → Prop
  | nil {P ρ : Cl} : Fill ls P ρ ρ
  | cons {P ρ ρo : Cl} {v : V} {B : OA} {w : OA → Cl} (j : Nat) (hm : (j, v) ∈ ls) (hP : P[j]? = some (some B)) (O : Own ρ v aN w) (k : Fill ls (P.set j none) (w B) ρo) : Fill ls P ρ ρo
theorem cs_fill {G H : Hp} {T : Cl} {t σ : L2.St} {vs : List V} {ls : List (Nat × V)} (l : T.length = t.length) (hv : ∀ p ∈ ls, vs[p.1]? = some p.2) (ex : Ex G H) : ∀ {P ρ ρo : Cl} {F : List Addr}, Fill ls P ρ ρo → P.length = vs.length →
    Cs G H (P ++ (T ++ ρ)) (vs.map some ++ (t ++ σ)) F → ∃ F1 F2, F.Perm (F1 ++ F2) ∧ Cs G H (T ++ ρo) (t ++ σ) F1 := fun {P ρ ρo F} fl => by
  induction fl generalizing F with
  | nil =>
    intro hl c
    obtain ⟨F1, F2, e1, c1, c2⟩ := c.unappend (by simp [hl])
    subst e1
    exact ⟨F2, F1, List.perm_append_comm, c2⟩
  | @cons P ρ ρo v B w j hm hP O k ih =>
    intro hl c
    have lj : j < P.length := lt_of_get hP
    have h1 := hv _ hm
    obtain ⟨u, F1, F2, e1, e2, q, c1⟩ := c.split (i := j) (A := B) (by rw [List.getElem?_append_left lj, hP])
    rw [List.set_append_left _ _ lj] at c1
    have eu : u = v := by
      rw [List.getElem?_append_left (by simp; omega), List.getElem?_map, h1] at e1
      cases e1; rfl
    subst eu
    have c2 : Cs G H ((P.set j none ++ T) ++ ρ) ((vs.map some ++ t) ++ σ) F2 := by simpa using c1
    obtain ⟨Fo, Fr, e3, eo, go⟩ := O.get (by simp [l, hl]) c2
    have eo : Fo = [] := eo
    subst eo
    obtain ⟨F3, e4, c3⟩ := go (.refl _) ex (fun b _ o q => q) q
    obtain ⟨F4, F5, e5, c4⟩ := ih (by simpa using hl) (F := F3) (by simpa using c3)
    exact ⟨F4, F5, (e2.trans ((List.Perm.append_left F1 (by simpa using e3)).trans e4.symm)).trans e5, c4⟩
section
variable {X : Cx} {ρ ρ1 ρ2 ρ3 : Cl} {a b e o : Expr} {es : List Expr} {pos p apos : Pos} {A A0 B : OA} {As As0 : List OA} {ls ls' : List (Nat × V)} {δ γ : Type} {pre : δ → List OA} {m : δ → Option γ} {post : δ → γ → Cl} {ret : δ → γ → OA} {a0 : V} {w w0 : OA → Cl} {C : Addr} {ns : List Str} {x : Str} {xx : δ} {r : γ}
theorem xx_of (h : XA X es ρ ρ1 As) : XX X es ρ ρ1 As [] := fun E T t σ H l st Q k => h E T t σ H l st Q fun vs H' hl st' => k vs H' hl (fun _ hp => by simp at hp) st'
theorem xx_lend {As' : List OA} (j : Nat) {v0 : V} (h : XX X es ρ ρ1 As ls) (hj : As[j]? = some (aV v0)) (O : Own ρ1 v0 A w) (h2 : As.set j A = As' := by rfl) : XX X es ρ (w aN) As' ((j, v0) :: ls) := fun E T t σ H l st Q k => h E T t σ H l st Q fun vs H' hl hls st' => by
  subst h2
  obtain ⟨G, F, f, c⟩ := st'
  have lj : j < As.length := lt_of_get hj
  obtain ⟨v, F1, F2, e1, e2, ⟨e3, e4⟩, c1⟩ := c.split (i := j) (A := aV v0) (by rw [List.getElem?_append_left (by simpa using lj), List.getElem?_map, hj]; rfl)
  subst e3 e4
  have hv : vs[j]? = some v := by
    rw [List.getElem?_append_left (by simp [hl, lj]), List.getElem?_map] at e1
    cases q : vs[j]? with
    | none => rw [q] at e1; cases e1
    | some u => rw [q] at e1; cases e1; rfl
  rw [List.set_append_left _ _ (by simpa using lj)] at c1
  have c2 : Cs G H' (((As.map some).set j none ++ T) ++ ρ1) ((vs.map some ++ t) ++ σ) F2 := by simpa using c1
  obtain ⟨Fo, Fr, e5, qo, go⟩ := O.get (by simp [l, hl]) c2
  obtain ⟨F3, e6, c3⟩ := go (.refl _) f.gh (fun b _ o q => q) (B := aN) (F1' := []) rfl
  have c4 : Cs G H' ((As.map some ++ (T ++ w aN)).set j none) (vs.map some ++ (t ++ σ)) F3 := by
    rw [List.set_append_left _ _ (by simpa using lj)]
    simpa using c3
  obtain ⟨F5, e8, c5⟩ := c4.join (by simp; omega) qo
  have e9 : (vs.map some ++ (t ++ σ)).set j (some v) = vs.map some ++ (t ++ σ) := set_get (by rw [List.getElem?_append_left (by simp [hl, lj]), List.getElem?_map, hv]; rfl)
  rw [List.set_append_left _ _ (by simpa using lj), e9] at c5
  refine k vs H' (by simp [hl]) (fun p hp => ?_) ⟨G, F5, f.perm ?_, by simpa [List.map_set] using c5⟩
  · rcases List.mem_cons.mp hp with hp | hp
    · subst hp; exact hv
    · exact hls p hp
  · have e2' : F.Perm F2 := by simpa using e2
    exact (e2'.trans (e5.trans (List.Perm.append_left Fo (by simpa using e6.symm)))).trans e8.symm
/-- .. told weaker -/
theorem xx_weak {As' : List OA} (j : Nat) (h : XX X es ρ ρ1 As ls) (hj : As[j]? = some A) (hi : Imp A B) (h2 : As.set j B = As' := by rfl) : XX X es ρ ρ1 As' ls := fun E T t σ H l st Q k => h E T t σ H l st Q fun vs H' hl hls st' => by
  subst h2
  obtain ⟨G, F, f, c⟩ := st'
  have lj : j < As.length := lt_of_get hj
  have q := Cs.weak (i := j) (A := A) (B := B) c (by rw [List.getElem?_append_left (by simpa using lj), List.getElem?_map, hj]; rfl) hi
  rw [List.set_append_left _ _ (by simpa using lj)] at q
  exact k vs H' (by simp [hl]) hls ⟨G, F, f, by simpa [List.map_set] using q⟩
/-- .. with its value -/
theorem xx_pin {As' : List OA} (j : Nat) {v0 : V} (h : XX X es ρ ρ1 As ls) (hj : As[j]? = some A) (hm : (j, v0) ∈ ls) (h2 : As.set j (pin v0 A) = As' := by rfl) : XX X es ρ ρ1 As' ls := fun E T t σ H l st Q k => h E T t σ H l st Q fun vs H' hl hls st' => by
  subst h2
  obtain ⟨G, F, f, c⟩ := st'
  have lj : j < As.length := lt_of_get hj
  obtain ⟨v, F1, F2, e1, e2, q, c1⟩ := c.split (i := j) (A := A) (by rw [List.getElem?_append_left (by simpa using lj), List.getElem?_map, hj]; rfl)
  have hv := hls _ hm
  have ev : v = v0 := by
    rw [List.getElem?_append_left (by simp [hl, lj]), List.getElem?_map, hv] at e1
    cases e1; rfl
  subst ev
  obtain ⟨F5, e8, c5⟩ := c1.join (A := pin v A) (v := v) (by simp; omega) ⟨rfl, q⟩
  have e9 : (vs.map some ++ (t ++ σ)).set j (some v) = vs.map some ++ (t ++ σ) := set_get e1
  rw [List.set_append_left _ _ (by simpa using lj), e9] at c5
  exact k vs H' (by simp [hl]) hls ⟨G, F5, f.perm (e2.trans e8.symm), by simpa [List.map_set] using c5⟩
/-- what a call's promise asks and gives -/
theorem fill_core {E : Ent} {T : Cl} {t σ : L2.St} {H : Hp} {vs : List V} {Q : VK} {XE' : XK} {ρo : Cl} (l : T.length = t.length) (hl : vs.length = As.length) (st : ST E (As.map some ++ (T ++ ρ1)) (vs.map some ++ (t ++ σ)) H) (hv : ∀ p ∈ ls, vs[p.1]? = some p.2)
    (hm : m xx = some r) (hpre : pre xx = As) (hP : (post xx r).length = As.length) (fl : Fill ls (post xx r) ρ1 ρo)
    (kk : ∀ v H', ST E (some (ret xx r) :: (T ++ ρo)) (some v :: (t ++ σ)) H' → Q v H') : SpM pre m post ret vs H Q XE' := by
  obtain ⟨G, F, f, c⟩ := st
  obtain ⟨F1, F2, e1, c1, c2⟩ := c.unappend (by simp [hl])
  subst e1
  refine ⟨xx, r, G, F1, hm, (f.less (List.sublist_append_left _ _)).start, by rw [hpre]; exact c1, by rw [hpre]; exact hl, fun v H2 st2 => kk v H2 ?_⟩
  obtain ⟨G2, F3, f3, w, F4, F5, e2, e3, q, c3⟩ := st2
  cases e2
  subst e3
  obtain ⟨f4, keep⟩ := f.step (Fa := F1) (Fr := F2) (.refl _) f3
  have c4 : Cs G2 H2 (T ++ ρ1) (t ++ σ) F2 := c2.mono f3.gg f3.gh keep
  have c5 := c3.append c4
  obtain ⟨F6, F7, e7, c6⟩ := cs_fill l hv f3.gh fl (hP.trans hl.symm) c5
  refine ⟨G2, F4 ++ F6, (f4.perm ?_).less (List.sublist_append_left _ F7), v, F4, F6, rfl, rfl, q, c6⟩
  rw [List.append_assoc, List.append_assoc]
  exact List.Perm.append_left F4 e7
/-- f(e, ..) -/
theorem xe_callX {k : Nat} {ρo : Cl} (Cc : Cal X.prog X.w X.K X.mg X.base k x (SpM pre m post ret)) (hr : Room k X.A) (hm : m xx = some r) (ha : XX X (e :: es) ρ ρ1 (pre xx) ls) (hP : (post xx r).length = (pre xx).length) (hA : ret xx r = A) (fl : Fill ls (post xx r) ρ1 ρo)
    (hg : Gl X x := by rfl) (hdb : (x == ("__debug__" : Str)) = false := by decide) (he : starEach (e :: es) X.env = (false, eval e X.env) :: starEach es X.env := by rfl) (hpl : (backTo pos (starEach es X.env)).any (·.1) = false := by rfl) :
    XE X (.Call (.Name x p) (e :: es) [] pos) ρ ρo A := fun E T t σ H l st Q kk => by
  subst hA
  obtain ⟨f, fd, ps, F, h1, h2, h3⟩ := Cc.ex
  refine wE.of (pe_call F hr hg h1 h2 h3 .nil pass0 paS hdb he hpl) (ha E T t σ H l st _ fun vs H' hl hv st' => ?_)
  rw [List.append_nil]
  exact fill_core l hl st' hv hm rfl hP fl kk
/-- the instance itself is lent, too -/
theorem self_lend {E : Ent} {T : Cl} {t σ : L2.St} {H : Hp} {vs : List V} (l : T.length = t.length) (hl : vs.length = As.length) (st : ST E (As.map some ++ (T ++ ρ1)) (vs.map some ++ (t ++ σ)) H) (O : Own ρ1 a0 A0 w) : ST E ((A0 :: As).map some ++ (T ++ w aN)) ((a0 :: vs).map some ++ (t ++ σ)) H := by
  obtain ⟨G, F, f, c⟩ := st
  have c2 : Cs G H ((As.map some ++ T) ++ ρ1) ((vs.map some ++ t) ++ σ) F := by simpa using c
  obtain ⟨Fo, Fr, e5, qo, go⟩ := O.get (by simp [l, hl]) c2
  obtain ⟨F3, e6, c3⟩ := go (.refl _) f.gh (fun b _ o q => q) (B := aN) (F1' := []) rfl
  exact ⟨G, Fo ++ F3, f.perm (e5.trans (List.Perm.append_left Fo (by simpa using e6.symm))), a0, Fo, F3, rfl, rfl, qo, by simpa using c3⟩
theorem self_ls {vs : List V} (hv : ∀ p ∈ ls, vs[p.1]? = some p.2) (h : ls' = (0, a0) :: ls.map fun p => (p.1 + 1, p.2)) : ∀ p ∈ ls', (a0 :: vs)[p.1]? = some p.2 := fun p hp => by
  subst h
  rcases List.mem_cons.mp hp with z | z
  · subst z; rfl
  · obtain ⟨q, hq, e⟩ := List.mem_map.mp z
    subst e
    exact hv q hq
/-- o.m(e, ..) -/
theorem xe_methX {k : Nat} {ρo : Cl} {pl : Sem Bool} (M : CalM X.prog X.w X.K X.mg X.base k C x (SpM pre m post ret)) (cl : Cls X.K C) (hn : x ∉ ns) (hr : Room k X.A) (hm : m xx = some r) (ho : XE X o ρ ρ (aV a0)) (O0 : Own ρ a0 (aObj C ns As0) w0) (ha : XX X (e :: es) ρ ρ1 As ls) (O : Own ρ1 a0 A0 w)
    (hpre : pre xx = A0 :: As) (hP : (post xx r).length = (A0 :: As).length) (hA : ret xx r = A) (hls : ls' = (0, a0) :: ls.map fun p => (p.1 + 1, p.2)) (fl : Fill ls' (post xx r) (w aN) ρo)
    (hst : starEach (e :: es) X.env = (false, eval e X.env) :: starEach es X.env := by rfl) (hpl : (backTo pos (starEach es X.env)).any (·.1) = false := by rfl)
    (ht : eval (.Call (.Attribute o x apos) (e :: es) [] pos) X.env = (do
      let ov ← eval o X.env
      standAt apos.atName
      let (f, first) ← holding [ov] (getMethod ov x pl)
      callWith pos f first (backTo pos (starEach (e :: es) X.env)) (backToKw pos (keywordEach [] X.env))) := by rfl) :
    XE X (.Call (.Attribute o x apos) (e :: es) [] pos) ρ ρo A := fun E T t σ H l st Q kk => by
  subst hA
  obtain ⟨f, fd, ps, F, h1, h2⟩ := M.ex
  refine wE.of (pe_meth (E := fun _ _ _ => False) peS cl h1 F hr h2 .nil pass0 paS hst hpl ht) (ho E T t σ H l st _ fun u H1 st1 => ?_)
  obtain ⟨G, Fa, Fv, fr, cs, e0, _⟩ := ST.one st1
  subst e0
  obtain ⟨F1, F2, e1, ⟨p, dx, vs, F', e2, e3, h3, hl, c1⟩, go⟩ := O0.get l cs
  refine ⟨p, dx, _, e2, h3, lookup_no hn, ha E T t σ H1 l (ST.pop st1) _ fun vs H2 hl hv st2 => ?_⟩
  rw [List.append_nil]
  exact fill_core (XE' := fun _ _ _ => False) l (by simp [hl]) (self_lend l hl st2 O) (self_ls hv hls) hm hpre hP fl kk
/-- o.m() -/
theorem xe_methX0 {k : Nat} {ρo : Cl} {pl : Sem Bool} (M : CalM X.prog X.w X.K X.mg X.base k C x (SpM pre m post ret)) (cl : Cls X.K C) (hn : x ∉ ns) (hr : Room k X.A) (hm : m xx = some r) (ho : XE X o ρ ρ (aV a0)) (O0 : Own ρ a0 (aObj C ns As0) w0) (O : Own ρ a0 A0 w)
    (hpre : pre xx = [A0]) (hP : (post xx r).length = 1) (hA : ret xx r = A) (fl : Fill [(0, a0)] (post xx r) (w aN) ρo)
    (ht : eval (.Call (.Attribute o x apos) [] [] pos) X.env = (do
      let ov ← eval o X.env
      standAt apos.atName
      let (f, first) ← holding [ov] (getMethod ov x pl)
      callWith pos f first (backTo pos (starEach [] X.env)) (backToKw pos (keywordEach [] X.env))) := by rfl) :
    XE X (.Call (.Attribute o x apos) [] [] pos) ρ ρo A := fun E T t σ H l st Q kk => by
  subst hA
  obtain ⟨f, fd, ps, F, h1, h2⟩ := M.ex
  refine wE.of (pe_meth0 (E := fun _ _ _ => False) peS cl h1 F hr h2 .nil pass0 ht) (ho E T t σ H l st _ fun u H1 st1 => ?_)
  obtain ⟨G, Fa, Fv, fr, cs, e0, _⟩ := ST.one st1
  subst e0
  obtain ⟨F1, F2, e1, ⟨p, dx, vs, F', e2, e3, h3, hl, c1⟩, go⟩ := O0.get l cs
  refine ⟨p, dx, _, e2, h3, lookup_no hn, ?_⟩
  exact fill_core (XE' := fun _ _ _ => False) (As := [A0]) (vs := [u]) l rfl (self_lend (As := []) (vs := []) l rfl (ST.pop st1) O) (fun p hp => by rw [List.mem_singleton.mp hp]; rfl) hm hpre hP fl kk
/-- X(e, ..) -/
theorem make_coreX {E : Ent} {T : Cl} {t σ : L2.St} {H : Hp} {vs : List V} {Q : VK} {XE' : XK} {z dx : Addr} {Po ρo : Cl} (l : T.length = t.length) (hl : vs.length = As.length) (st : ST E (As.map some ++ (T ++ ρ1)) (vs.map some ++ (t ++ σ)) H) (hv : ∀ p ∈ ls, vs[p.1]? = some p.2)
    (nz : H z = none) (ndx : H dx = none) (ne : dx ≠ z) (hm : m xx = some r) (hpre : pre xx = aObj C [] [] :: As) (hpost : post xx r = some B :: Po) (hret : ret xx r = aD X.K .none) (hP : Po.length = As.length) (fl : Fill ls Po ρ1 ρo)
    (kk : ∀ v H', ST E (some B :: (T ++ ρo)) (some v :: (t ++ σ)) H' → Q v H') : SpM pre m post ret (.ref z :: vs) (upd (upd H dx (.own z)) z (.ins C dx [])) (fun v H2 => v = .non ∧ Q (.ref z) H2) XE' := by
  obtain ⟨G, F, f, c⟩ := st
  have fm := Frm.made (o := .ins C dx []) (o' := .own z) f.gh nz ndx ne
  obtain ⟨f0, keep0⟩ := f.step (Fa := []) (Fr := F) (.refl _) fm
  have c0 := c.mono (.refl _) f0.gh keep0
  obtain ⟨F1, F2, e1, c1, c2⟩ := c0.unappend (by simp [hl])
  subst e1
  have f0 : Frm E G (upd (upd H dx (.own z)) z (.ins C dx [])) ((z :: F1) ++ F2) := f0
  refine ⟨xx, r, G, z :: F1, hm, (f0.less (List.sublist_append_left _ _)).start, ?_, by rw [hpre]; simp [hl], fun v H2 st2 => ?_⟩
  · rw [hpre]
    exact ⟨.ref z, [z], F1, rfl, rfl, ⟨z, dx, [], [], rfl, rfl, upd_same, rfl, rfl⟩, c1⟩
  · obtain ⟨G2, F3, f3, v', F4, F5, e3, e4, q, c3⟩ := st2
    cases e3
    subst e4
    rw [hret] at q
    obtain ⟨q, eq0⟩ := q
    cases q
    subst eq0
    refine ⟨rfl, kk _ _ ?_⟩
    rw [hpost] at c3
    obtain ⟨u, FB, FP, e5, e6, qB, c4⟩ := c3
    cases e5
    subst e6
    obtain ⟨f4, keep⟩ := f0.step (Fa := z :: F1) (Fr := F2) (.refl _) f3
    have c5 := c4.append (c2.mono f3.gg f3.gh keep)
    obtain ⟨F6, F7, e7, c6⟩ := cs_fill l hv f3.gh fl (hP.trans hl.symm) c5
    refine ⟨G2, FB ++ F6, ((show Frm E G2 H2 ((FB ++ FP) ++ F2) from f4).perm ?_).less (List.sublist_append_left _ F7), .ref z, FB, F6, rfl, rfl, qB, c6⟩
    rw [List.append_assoc, List.append_assoc]
    exact List.Perm.append_left FB e7
theorem xe_makeX {k : Nat} {Po ρo : Cl} (M : CalC X.prog X.w X.K X.mg X.base k C x (SpM pre m post ret)) (hr : Room (k + 1) X.A) (hm : m xx = some r) (ha : XX X (e :: es) ρ ρ1 As ls)
    (hpre : pre xx = aObj C [] [] :: As) (hpost : post xx r = some B :: Po) (hret : ret xx r = aD X.K .none) (hP : Po.length = As.length) (fl : Fill ls Po ρ1 ρo)
    (hg : Gl X x := by rfl) (hdb : (x == ("__debug__" : Str)) = false := by decide) (he : starEach (e :: es) X.env = (false, eval e X.env) :: starEach es X.env := by rfl) (hpl : (backTo pos (starEach es X.env)).any (·.1) = false := by rfl) :
    XE X (.Call (.Name x p) (e :: es) [] pos) ρ ρo B := fun E T t σ H l st Q kk => by
  obtain ⟨f, fd, ps, F, h1, h2, h3⟩ := M.ex
  refine wE.of (pe_make (E := fun _ _ _ => False) h2 F hr hg h1 h3 .nil pass0 paS hdb he hpl) (ha E T t σ H l st _ fun vs H' hl hv st' z dx nz ndx ne => ?_)
  rw [List.append_nil]
  exact make_coreX (X := X) (XE' := fun _ _ _ => False) l hl st' hv nz ndx ne hm hpre hpost hret hP fl kk
end
section
variable {X : Cx} {ρ ρ1 ρx : Cl} {e o : Expr} {es : List Expr} {pos p apos : Pos} {A A0 B : OA} {As As0 : List OA} {ls ls' : List (Nat × V)} {δ ζ : Type} {pre : δ → List OA} {mz : δ → Option ζ} {post : δ → ζ → Cl} {a0 : V} {w w0 : OA → Cl} {C : Addr} {ns : List Str} {x : Str} {xx : δ} {z : ζ} {W : WX} {cz : Value}
theorem fillZ_core {E : Ent} {σ : L2.St} {H : Hp} {vs : List V} {Q : VK} {XE' : XK} (hl : vs.length = As.length) (st : ST E (As.map some ++ ρ1) (vs.map some ++ σ) H) (hv : ∀ p ∈ ls, vs[p.1]? = some p.2)
    (hm : mz xx = some z) (hpre : pre xx = As) (hP : (post xx z).length = As.length) (fl : Fill ls (post xx z) ρ1 ρx) (kk : ∀ H', ST E ρx σ H' → XE' cz none H') : SpZ pre mz post cz vs H Q XE' := by
  obtain ⟨G, F, f, cs⟩ := st
  obtain ⟨F1, F2, e1, c1, c2⟩ := cs.unappend (by simp [hl])
  subst e1
  refine ⟨xx, z, G, F1, hm, (f.less (List.sublist_append_left _ _)).start, by rw [hpre]; exact c1, by rw [hpre]; exact hl, fun H2 st2 => kk H2 ?_⟩
  obtain ⟨G2, F3, f3, c3⟩ := st2
  obtain ⟨f4, keep⟩ := f.step (Fa := F1) (Fr := F2) (.refl _) f3
  have c5 := c3.append (c2.mono f3.gg f3.gh keep)
  obtain ⟨F6, F7, e7, c6⟩ := cs_fill (T := []) (t := []) rfl hv f3.gh fl (hP.trans hl.symm) c5
  exact ⟨G2, F6, (f4.perm e7).less (List.sublist_append_left _ _), c6⟩
/-- f(e, ..) raises -/
theorem xz_callX {k : Nat} (Q : CalZ X.prog X.w X.K X.mg X.base k x (SpZ pre mz post cz)) (tk : Takes X W) (hr : Room k X.A) (hm : mz xx = some z) (ha : XX X (e :: es) ρ ρ1 (pre xx) ls) (hP : (post xx z).length = (pre xx).length) (fl : Fill ls (post xx z) ρ1 ρx)
    (hg : Gl X x := by rfl) (hdb : (x == ("__debug__" : Str)) = false := by decide) (he : starEach (e :: es) X.env = (false, eval e X.env) :: starEach es X.env := by rfl) (hpl : (backTo pos (starEach es X.env)).any (·.1) = false := by rfl) :
    XZ X (.Call (.Name x p) (e :: es) [] pos) ρ ρx W cz := fun E σ H st kk Q' => by
  obtain ⟨f, fd, ps, F, h1, h2, h3⟩ := Q.ex
  refine wE.of (pe_callS (E := WE W) F hr hg h1 h2 h3 (passAt tk) paS hdb he hpl) (ha E [] [] σ H rfl st _ fun vs H' hl hv st' => ?_)
  exact fillZ_core hl st' hv hm rfl hP fl kk
/-- o.m(e, ..) raises -/
theorem xz_methX {k : Nat} {pl : Sem Bool} (M : CalMZ X.prog X.w X.K X.mg X.base k C x (SpZ pre mz post cz)) (tk : Takes X W) (cl : Cls X.K C) (hn : x ∉ ns) (hr : Room k X.A) (hm : mz xx = some z) (ho : XE X o ρ ρ (aV a0)) (O0 : Own ρ a0 (aObj C ns As0) w0) (ha : XX X (e :: es) ρ ρ1 As ls) (O : Own ρ1 a0 A0 w)
    (hpre : pre xx = A0 :: As) (hP : (post xx z).length = (A0 :: As).length) (hls : ls' = (0, a0) :: ls.map fun p => (p.1 + 1, p.2)) (fl : Fill ls' (post xx z) (w aN) ρx)
    (hst : starEach (e :: es) X.env = (false, eval e X.env) :: starEach es X.env := by rfl) (hpl : (backTo pos (starEach es X.env)).any (·.1) = false := by rfl)
    (ht : eval (.Call (.Attribute o x apos) (e :: es) [] pos) X.env = (do
      let ov ← eval o X.env
      standAt apos.atName
      let (f, first) ← holding [ov] (getMethod ov x pl)
      callWith pos f first (backTo pos (starEach (e :: es) X.env)) (backToKw pos (keywordEach [] X.env))) := by rfl) :
    XZ X (.Call (.Attribute o x apos) (e :: es) [] pos) ρ ρx W cz := fun E σ H st kk Q' => by
  obtain ⟨f, fd, ps, F, h1, h2⟩ := M.ex
  refine wE.of (pe_methS (E := WE W) peS cl h1 F hr h2 (passAt tk) paS hst hpl ht) (ho E [] [] σ H rfl st _ fun u H1 st1 => ?_)
  obtain ⟨G, Fa, Fv, fr, cs, e0, _⟩ := ST.one st1
  subst e0
  obtain ⟨F1, F2, e1, ⟨p, dx, vs, F', e2, e3, h3, hl, c1⟩, go⟩ := O0.get (T := []) (t := []) rfl cs
  refine ⟨p, dx, _, e2, h3, lookup_no hn, ha E [] [] σ H1 rfl (ST.pop st1) _ fun vs H2 hl hv st2 => ?_⟩
  rw [← e2]
  exact fillZ_core (As := A0 :: As) (vs := u :: vs) (by simp [hl]) (self_lend (T := []) (t := []) rfl hl st2 O) (self_ls hv hls) hm hpre hP fl kk
/-- C(e, ..) raises -/
theorem xz_makeX {k : Nat} {Po : Cl} (M : CalCZ X.prog X.w X.K X.mg X.base k C x (SpZ pre mz post cz)) (tk : Takes X W) (hr : Room (k + 1) X.A) (hm : mz xx = some z) (ha : XX X (e :: es) ρ ρ1 As ls)
    (hpre : pre xx = aObj C [] [] :: As) (hpost : post xx z = none :: Po) (hP : Po.length = As.length) (fl : Fill ls Po ρ1 ρx)
    (hg : Gl X x := by rfl) (hdb : (x == ("__debug__" : Str)) = false := by decide) (he : starEach (e :: es) X.env = (false, eval e X.env) :: starEach es X.env := by rfl) (hpl : (backTo pos (starEach es X.env)).any (·.1) = false := by rfl) :
    XZ X (.Call (.Name x p) (e :: es) [] pos) ρ ρx W cz := fun E σ H st kk Q' => by
  obtain ⟨f, fd, ps, F, h1, h2, h3⟩ := M.ex
  refine wE.of (pe_makeS (E := WE W) h2 F hr hg h1 h3 (passAt tk) paS hdb he hpl) (ha E [] [] σ H rfl st _ fun vs H1 hl hv st1 y dx ny ndx ne => ?_)
  obtain ⟨G, F, f, cs⟩ := st1
  have fm := Frm.made (o := .ins C dx []) (o' := .own y) f.gh ny ndx ne
  obtain ⟨f0, keep0⟩ := f.step (Fa := []) (Fr := F) (.refl _) fm
  have c0 := cs.mono (.refl _) f0.gh keep0
  obtain ⟨F1, F2, e1, c1, c2⟩ := c0.unappend (by simp [hl])
  subst e1
  have f0 : Frm E G (upd (upd H1 dx (.own y)) y (.ins C dx [])) ((y :: F1) ++ F2) := f0
  refine ⟨xx, z, G, y :: F1, hm, (f0.less (List.sublist_append_left _ _)).start, ?_, by rw [hpre]; simp [hl], fun H2 st2 => kk H2 ?_⟩
  · rw [hpre]
    exact ⟨.ref y, [y], F1, rfl, rfl, ⟨y, dx, [], [], rfl, rfl, upd_same, rfl, rfl⟩, c1⟩
  · obtain ⟨G2, F3, f3, c3⟩ := st2
    rw [hpost] at c3
    have c4 : Cs G2 H2 Po (vs.map some) F3 := c3
    obtain ⟨f4, keep⟩ := f0.step (Fa := y :: F1) (Fr := F2) (.refl _) f3
    have c5 := c4.append (c2.mono f3.gg f3.gh keep)
    obtain ⟨F6, F7, e7, c6⟩ := cs_fill (T := []) (t := []) rfl hv f3.gh fl (hP.trans hl.symm) c5
    exact ⟨G2, F6, (f4.perm e7).less (List.sublist_append_left _ _), c6⟩
end
end Mr

set_option Elab.async false
set_option linter.all false
set_option maxRecDepth 100000
/-! dicts with int keys that are walked (locked meanwhile); dict(pairs); lists of pairs (int, owned list) -/
namespace Mr
open PySem PySem.Spec PyProof.Rows L2
/-- a dict that is locked: by its object, what stands there -/
def aDL (K : PySem.W.Frag) (od : Obj) (ws : List (Key × V)) (kvs : List (Int × PyData)) : OA := ⟨fun G H v F => ∃ p, v = .ref p ∧ F = [p] ∧ H p = some (.frz od (.dK ws)) ∧ KvD K G ws kvs, fun h e _ k => by
  obtain ⟨p, e1, e2, h1, q⟩ := h
  subst e2
  exact ⟨p, e1, rfl, k p (by simp) _ h1, q.mono e⟩⟩
section
variable {X : Cx} {ρ ρ1 ρ2 ρ' : Cl} {a b e o iter tg : Expr} {pos p apos cpos : Pos} {v0 : V} {w : OA → Cl} {w2 : Obj → List (Key × V) → OA → Cl} {α : Type} [Cd α] {kvs : List (Int × α)} {k : Int} {x : α} {A B : OA} {kvd : List (Int × PyData)}
/-- the expression runs while the dict is locked -/
theorem xe_lock (O : Own ρ v0 (aDK X.K kvd) w) (O2 : ∀ od ws, Own (w (aDL X.K od ws kvd)) v0 (aDL X.K od ws kvd) (w2 od ws)) (kk : ∀ od ws, XE X e (w (aDL X.K od ws kvd)) (w (aDL X.K od ws kvd)) A) (hb : ∀ od ws, w2 od ws (aDK X.K kvd) = ρ') : XE X e ρ ρ' A := fun E T t σ H l st Q q => by
  obtain ⟨G, F, f, c⟩ := st
  obtain ⟨F1, F2, e1, ⟨d, ws, ev, eF, h1, qk⟩, go⟩ := O.get l c
  subst eF
  refine wE.of (pe_lock peS) ⟨d, .dK ws, h1, trivial, fun od => ?_⟩
  have f1 := f.perm e1
  have f2 : Frm ⟨G, H, [d]⟩ G H [d] := (f1.less (List.sublist_append_left _ _)).start
  have f3 := Frm.write (o := .frz od (.dK ws)) f2
  obtain ⟨f5, st5⟩ := f.step e1 f3
  obtain ⟨F6, e8, c4⟩ := go (.refl _) f5.gh st5 (B := aDL X.K od ws kvd) (F1' := [d]) ⟨d, ev, rfl, upd_same, qk⟩
  refine kk od ws E T t σ _ l ⟨G, F6, f5.perm e8.symm, c4⟩ _ fun v H' st1 => ?_
  obtain ⟨G2, F7, f7, c7⟩ := st1
  obtain ⟨F8, F9, e9, ⟨d', ev', eF', h9, q9⟩, go9⟩ := (O2 od ws).get (T := some A :: T) (t := some v :: t) (by simp [l]) c7
  rw [ev] at ev'
  cases ev'
  subst eF'
  refine ⟨h9, q v _ ?_⟩
  have g1 := f7.perm e9
  have g2 : Frm ⟨G2, H', [d]⟩ G2 H' [d] := (g1.less (List.sublist_append_left _ _)).start
  have g3 := Frm.write (o := .dK ws) g2
  obtain ⟨g5, st6⟩ := f7.step e9 g3
  obtain ⟨F10, e11, c10⟩ := go9 (.refl _) g5.gh st6 (B := aDK X.K kvd) (F1' := [d]) ⟨d, ws, ev, rfl, upd_same, q9⟩
  rw [hb od ws] at c10
  exact ⟨G2, F10, g5.perm e11.symm, c10⟩
theorem ST.seeL {K : PySem.W.Frag} {T ρ : Cl} {t σ : L2.St} {G H : Hp} {F : List Addr} {od : Obj} {ws : List (Key × V)} (l : T.length = t.length) (c : Cs G H (T ++ ρ) (t ++ σ) F) (O : Own ρ v0 (aDL K od ws kvd) w) : ∃ p, v0 = .ref p ∧ H p = some (.frz od (.dK ws)) ∧ KvD K G ws kvd := by
  obtain ⟨F1, F2, e1, ⟨p, e2, e3, h1, q⟩, go⟩ := O.get l c
  exact ⟨p, e2, h1, q⟩
/-- d[k] of a locked dict -/
theorem xe_dgetL {od : Obj} {ws : List (Key × V)} (hu : X.A.units + 64 < cLine) (hx : dGet kvs k = some x) (ho : XE X o ρ ρ (aV v0)) (hb : XE X b ρ ρ1 (aD X.K (.int k))) (O : Own ρ1 v0 (aDL X.K od ws (dD kvs)) w) (hs : NoSl b := by exact fun _ _ => rfl) : XE X (.Subscript o b pos) ρ ρ1 (aD X.K (Cd.d x)) := fun E T t σ H l st Q kk =>
  wE.of (pe_dget (hu1 hu) peS peS hs) (ho E T t σ H l st _ fun u H1 st1 => by
    have e0 := ST.topV st1
    subst e0
    refine hb E (_ :: T) (_ :: t) σ H1 (by simp [l]) st1 _ fun y H2 st2 => ?_
    obtain ⟨G, F, f, c, q⟩ := ST.top (ST.drop2 st2)
    cases q
    obtain ⟨p, e1, h1, q⟩ := ST.seeL l c O
    obtain ⟨v, e2, hv⟩ := q.get (dGet_d hx)
    refine ⟨p, v, e1, ?_, kk _ _ (ST.put f c hv)⟩
    rw [← e2]
    exact .inl ⟨ws, Sum.inl k, .inr ⟨od, h1⟩, rfl, rfl⟩)
/-- for k in d, d locked -/
theorem xi_dkeys {od : Obj} {ws : List (Key × V)} (h : XE X iter ρ ρ1 (aV v0)) (hi : Own ρ1 v0 (aDL X.K od ws (dD kvs)) w) : XI X tg iter ρ ρ1 (fun L => ∃ w, Own L v0 (aDL X.K od ws (dD kvs)) w) (dKeys kvs) (fun x => aD X.K (.int x)) := fun E T t σ H l st R k => by
  have rd : ∀ {E : Ent} {T : Cl} {t : L2.St} {L : Cl} {C : L2.St} {H : Hp}, T.length = t.length → (∃ w, Own L v0 (aDL X.K od ws (dD kvs)) w) → ST E (T ++ L) (t ++ C) H → ∃ p G F, v0 = .ref p ∧ H p = some (.frz od (.dK ws)) ∧ KvD X.K G ws (dD kvs) ∧ Frm E G H F ∧ Cs G H (T ++ L) (t ++ C) F := fun {E T t L C H} l hL st => by
    obtain ⟨G, F, f, c⟩ := st
    obtain ⟨w, hL⟩ := hL
    obtain ⟨p, e1, e2, e3⟩ := ST.seeL l c hL
    exact ⟨p, G, F, e1, e2, e3, f, c⟩
  refine wI.of (pi_keys peS) (h E T t σ H l st _ fun v H1 st1 => ?_)
  obtain ⟨G, F, Fv, f, cs, e0, _⟩ := ST.one st1
  have st2 : ST E (T ++ ρ1) (t ++ σ) H1 := ⟨G, F, f, cs⟩
  obtain ⟨p, G', F', e1, h1, hk, _, _⟩ := rd l ⟨w, hi⟩ st2
  subst e0 e1
  have hlen : ws.length = (dKeys kvs).length := by
    have := congrArg List.length hk.keys
    rw [List.length_map, List.length_map, dKeys_d] at this
    exact this
  refine ⟨p, od, rfl, .inl ⟨ws, h1, k _ E _ (.refl _) st2 ⟨fun n hn T t L C H l ok st => ?_, fun T t L C H l ok st => ?_, fun n x v H H' hx T t L C l ok st y => ?_⟩⟩⟩
  · obtain ⟨p', G2, F2, e1, h1, _, _, _⟩ := rd l ok st
    cases e1
    exact ⟨h1, by rw [hlen]; exact hn⟩
  · obtain ⟨p', G2, F2, e1, h1, _, _, _⟩ := rd l ok st
    cases e1
    exact ⟨h1, by rw [hlen]; exact Nat.le_refl _⟩
  · obtain ⟨p', G2, F2, e1, h1, hk2, f2, c2⟩ := rd l ok st
    cases e1
    obtain ⟨e1, k', v', e2, e3⟩ := y
    have e4 : (ws.map (·.1))[n]? = some k' := by rw [List.getElem?_map, e2]; rfl
    rw [hk2.keys, List.getElem?_map, dKeys_d, hx] at e4
    have e5 : Sum.inl x = k' := Option.some.inj e4
    subst e5 e3 e1
    exact ST.put f2 c2 (.int x)
/-! dict(pairs) -/
def dOf {β : Type} (ps : List (Int × β)) : List (Int × β) := ps.foldl (fun acc p => dPut acc p.1 p.2) []
theorem kvd_merge {K : PySem.W.Frag} {G : Hp} : ∀ {ws ws' : List (Key × V)} {kvs kvs' : List (Int × PyData)}, KvD K G ws kvs → KvD K G ws' kvs' → KvD K G (mergeK ws ws') (kvs'.foldl (fun acc p => dPut acc p.1 p.2) kvs)
  | _, _, _, _, h, .nil => h
  | ws, _, kvs, _, h, .cons (k := k) (v := v) (d := d) hv t => kvd_merge (ws := putK ws (Sum.inl k) v) (kvs := dPut kvs k d) (h.put hv) t
theorem dOf_d (ps : List (Int × α)) : (dD ps).foldl (fun acc p => dPut acc p.1 p.2) [] = dD (dOf ps) := by
  have key : ∀ (ps acc : List (Int × α)), (dD ps).foldl (fun acc p => dPut acc p.1 p.2) (dD acc) = dD (ps.foldl (fun acc p => dPut acc p.1 p.2) acc) := fun ps => by
    induction ps with
    | nil => intro acc; rfl
    | cons p ps ih =>
      intro acc
      show (dD ps).foldl _ (dPut (dD acc) p.1 (Cd.d p.2)) = _
      rw [dPut_d, ih]
      rfl
  exact key ps []
theorem pairs_dq {K : PySem.W.Frag} {G H : Hp} (ex : Ex G H) : ∀ {ps : List (Int × α)} {vs : List V}, DqAll K G vs (ps.map fun q => Cd.d q) → ∃ (as : List Addr) (ws : List (Key × V)), vs = as.map V.ref ∧ Paired (fun p kv => SqT K H p [kV kv.1, kv.2]) as ws ∧ KvD K G ws (dD ps)
  | [], _, h => by cases h; exact ⟨[], [], rfl, .nil, .nil⟩
  | q :: ps, _, h => by
    cases h with
    | cons h1 h2 =>
      obtain ⟨as, ws, e1, pr, kv⟩ := pairs_dq ex h2
      subst e1
      have h1 : Dq K G _ (PyData.tuple [Cd.d q.1, Cd.d q.2]) := h1
      cases h1 with
      | tup a1 a2 =>
        cases a2 with
        | cons b1 b2 =>
          cases b2 with
          | cons c1 c2 =>
            cases c2
            have b1 : Dq K G _ (PyData.int q.1) := b1
            cases b1
            exact ⟨_ :: as, (Sum.inl q.1, _) :: ws, rfl, .cons (ex.st a1) pr, .cons c1 kv⟩
/-- dict(pairs) -/
theorem xe_dictP {ps : List (Int × α)} (hc : X.calm = true) (ha : XE X a ρ ρ1 A) (r : Rls X.K ρ1 A (ps.map fun q => Cd.d q)) (hm : X.mg "dict" = none) (hg : Gl X "dict" := by rfl) (hs : starEach [a] X.env = [(false, eval a X.env)] := by rfl) (hpl : (backTo pos (starEach [] X.env)).any (·.1) = false := by rfl) : XE X (.Call (.Name "dict" p) [a] [] pos) ρ ρ1 (aDK X.K (dD (dOf ps))) :=
  xe_callTy (call_dictP hc) (xa_cons ha xa_nil hs) (fun E T t σ vs H Q l hl st k => by
    obtain ⟨v, rfl⟩ := vs1 hl
    obtain ⟨G, F, Fv, f, c, q⟩ := ST.one st
    obtain ⟨a1, xs, e1, e2, e3⟩ := r l c f.gh q
    obtain ⟨as, ws, e4, pr, kv⟩ := pairs_dq f.gh e3
    subst e1 e4
    refine ⟨a1, as, ws, rfl, e2, pr, fun p' hn => k _ _ ?_⟩
    have kv2 := kvd_merge (ws := []) (kvs := []) .nil kv
    rw [dOf_d] at kv2
    obtain ⟨f1, keep⟩ := f.step (Fa := []) (Fr := F) (.refl _) (Frm.alloc (o := .dK (mergeK [] ws)) f.gh hn)
    exact ⟨G, _, f1, .ref p', [p'], F, rfl, rfl, ⟨p', _, rfl, rfl, upd_same, kv2⟩, c.mono (.refl _) f1.gh keep⟩) hm (by decide +kernel) hg (by decide) (by decide) hs hpl
end
/-! an owned list of pairs (int, owned list) -/
abbrev aPr (K : PySem.W.Frag) {α : Type} [Cd α] (p : Int × List α) : OA := aT [aD K (Cd.d p.1), aLD K (p.2.map Cd.d)]
abbrev aLP (K : PySem.W.Frag) {α : Type} [Cd α] (xs : List (Int × List α)) : OA := aL (xs.map (aPr K))
section
variable {K : PySem.W.Frag} {α : Type} [Cd α] {ρ : Cl} {v0 : V} {w : OA → Cl}
theorem lp_dp {G H : Hp} (e : Ex G H) : ∀ {xs : List (Int × List α)} {vs : List V} {F : List Addr}, Cs G H ((xs.map (aPr K)).map some) (vs.map some) F → DpAll K H vs (xs.map fun q => Cd.d q)
  | [], [], _, _ => .nil
  | [], _ :: _, _, h => h.elim
  | _ :: _, [], _, h => h.elim
  | x :: xs, y :: vs, F, h => by
    obtain ⟨v, F1, F2, e1, e2, a, c⟩ := h
    cases e1
    obtain ⟨p, us, F', e3, e4, h1, c1⟩ := a
    match us, h1, c1 with
    | [], _, c1 => exact c1.elim
    | [_], _, c1 =>
      obtain ⟨_, _, _, _, _, _, c2⟩ := c1
      exact c2.elim
    | _ :: _ :: _ :: _, _, c1 =>
      obtain ⟨_, _, _, _, _, _, _, _, _, _, _, _, c2⟩ := c1
      exact c2.elim
    | [u1, u2], h1, c1 =>
      obtain ⟨w1, F3, F4, e5, e6, ⟨q1, _⟩, w2, F5, F6, e7, e8, ⟨p2, us2, F7, e9, e10, h2, c3⟩, _⟩ := c1
      obtain ⟨q2, _⟩ := csD c3
      cases e5
      cases e7
      subst e3 e9
      exact .cons (.tup (.inl (.inl h1)) (.cons (Dq.dp _ _ (Dq.mono e _ _ q1)) (.cons (.lst (.inl (.inl h2)) (DqAll.dp _ _ (DqAll.mono e _ _ q2))) .nil))) (lp_dp e c)
theorem rdLP {xs : List (Int × List α)} (O : Own ρ v0 (aLP K xs) w) : Rda K ρ (aV v0) (Cd.d xs) := fun l c e p => by
  obtain ⟨e0, _⟩ := p
  obtain ⟨F1, F2, e1, ⟨q, vs, F', e2, e3, h1, c1⟩, go⟩ := O.get l c
  subst e0
  subst e2
  exact .lst (.inl (.inl h1)) (lp_dp e c1)
theorem rdLPF {xs : List (Int × List α)} : Rda K ρ (aLP K xs) (Cd.d xs) := fun l c e p => by
  obtain ⟨q, vs, F', e2, e3, h1, c1⟩ := p
  subst e2
  exact .lst (.inl (.inl h1)) (lp_dp e c1)
theorem rtyL {As : List OA} (O : Own ρ v0 (aL As) w) : Rty K ρ (aV v0) "list" := fun l c e p => by
  obtain ⟨e0, _⟩ := p
  obtain ⟨F1, F2, e1, ⟨q, vs, F', e2, e3, h1, c1⟩, go⟩ := O.get l c
  subst e0
  subst e2
  exact sql_ty (.inl (.inl h1))
end
section
variable {X : Cx} {ρ : Cl} {a b b2 : Expr} {pos p2 : Pos} {v0 : V} {α : Type} [Cd α]
/-- xs[0][1], taken out; the rest is dropped -/
theorem xe_lp01 (i : Nat) {xs : List (Int × List α)} {x : Int × List α} (h : ρ[i]? = some (some (pin v0 (aLP X.K xs)))) (hx : atI xs 0 = some x) (ha : ∀ (ρ' : Cl) (A : OA), ρ'[i]? = some (some (pin v0 A)) → XE X a ρ' ρ' (aV v0)) (hb : ∀ ρ', XE X b ρ' ρ' (aD X.K (.int 0))) (hb2 : ∀ ρ', XE X b2 ρ' ρ' (aD X.K (.int 1)))
    (hs : PlainIx b := by exact fun _ _ => rfl) (hs2 : PlainIx b2 := by exact fun _ _ => rfl) : XE X (.Subscript (.Subscript a b p2) b2 pos) ρ (ρ.set i none) (aLD X.K (x.2.map Cd.d)) := by
  have hl : i < ρ.length := lt_of_get h
  have h0 : xs[0]? = some x := by
    have := hx
    unfold atI ixN at this
    cases xs with
    | nil => cases this
    | cons y ys =>
      rw [if_pos (by decide), if_pos (by simp only [List.length_cons]; omega)] at this
      exact this
  have hg : (xs.map (aPr X.K))[0]? = some (aPr X.K x) := map_at h0
  have hlt : 0 < (xs.map (aPr X.K)).length := lt_of_get hg
  refine xe_pinC ctnL (Own.slot i h) 0 hg fun v => ?_
  have h1 : (ρ.set i (some (pin v0 (aL ((xs.map (aPr X.K)).set 0 (pin v (aPr X.K x)))))))[i]? = some (some (pin v0 (aL ((xs.map (aPr X.K)).set 0 (pin v (aPr X.K x)))))) := List.getElem?_set_self hl
  have O1 := Own.foc ctnL (Own.slot i h1) hlt
  refine xe_pinC (A := aLD X.K (x.2.map Cd.d)) ctnT O1 1 rfl fun u => ?_
  let R := (ρ.set i (some (pin v0 (aL ((xs.map (aPr X.K)).set 0 (pin v (aPr X.K x))))))).set i (some (pin v0 (aL ((xs.map (aPr X.K)).set 0 (pin v (aT [aD X.K (Cd.d x.1), pin u (aLD X.K (x.2.map Cd.d))]))))))
  have hRl : i < (ρ.set i (some (pin v0 (aL ((xs.map (aPr X.K)).set 0 (pin v (aPr X.K x))))))).length := by rw [List.length_set]; exact hl
  have h2 : R[i]? = some (some (pin v0 (aL ((xs.map (aPr X.K)).set 0 (pin v (aT [aD X.K (Cd.d x.1), pin u (aLD X.K (x.2.map Cd.d))])))))) := List.getElem?_set_self hRl
  have O2 := Own.foc ctnL (Own.slot i h2) hlt
  have e1 : XE X (.Subscript a b p2) R R (aV v) := xe_itV (ha R _ h2) (hb R) (Own.slot i h2) (by rw [List.length_set]; unfold ixN; rw [if_pos (by decide), if_pos (by omega)]; rfl) (List.getElem?_set_self hlt) hs
  have e2 : XE X (.Subscript (.Subscript a b p2) b2 pos) R R (aV u) := xe_itT e1 (hb2 R) O2 (j := 1) rfl rfl hs2
  refine xe_wk (xe_own e2 (Own.kid ctnT O2 1 rfl)) ?_
  show Wk (List.set _ i _) _
  have : ∀ (L : Cl) (x : Option OA), L.length = ρ.length → (∀ j, j ≠ i → L[j]? = ρ[j]?) → Wk (L.set i x) (ρ.set i none) := fun L x hL hj => by
    have e : ρ.set i none = (L.set i x).set i none := by
      refine List.ext_getElem? fun j => ?_
      by_cases q : j = i
      · subst q
        rw [List.getElem?_set_self hl, List.getElem?_set_self (by rw [List.length_set, hL]; exact hl)]
      · rw [List.getElem?_set_ne (fun z => q z.symm), List.getElem?_set_ne (fun z => q z.symm), List.getElem?_set_ne (fun z => q z.symm), hj j q]
    rw [e]
    exact wk_setn _ _
  refine this _ _ ?_ fun j hj => ?_
  · show (List.set (List.set _ _ _) _ _).length = _
    rw [List.length_set, List.length_set]
  · show (List.set (List.set _ _ _) _ _)[j]? = _
    rw [List.getElem?_set_ne (fun z => hj z.symm), List.getElem?_set_ne (fun z => hj z.symm)]
end
end Mr

set_option Elab.async false
set_option linter.all false
set_option maxRecDepth 100000
/-! names of parts while a test runs; what is told weaker behind it -/
namespace Mr
open PySem PySem.Spec PyProof.Rows L2
section
variable {X : Cx} {ω : Type} {ρ ρ1 ρ2 ρ' : Cl} {A B : OA} {a b e o : Expr} {As Bs : List OA} {a0 : V} {c : List OA → OA} {w : OA → Cl} {k0 : Bool}
theorem xt_pinC (hc : Ctn c) (O : Own ρ a0 (c As) w) (k : Nat) (hk : As[k]? = some A) (kk : ∀ v, XT X e (w (c (As.set k (pin v A)))) ρ' k0) : XT X e ρ ρ' k0 := fun E T t σ H l st Q q => by
  obtain ⟨v, st2⟩ := st_pinC l st hc O hk
  exact kk v E T t σ H l st2 Q q
theorem xt_weakE {k : Bool} (he : XT X e ρ ρ1 k) (i : Nat) {B B' : OA} (h : ρ1[i]? = some (some B)) (w : Imp B B') : XT X e ρ (ρ1.set i (some B')) k := fun E T t σ H l st Q q => he E T t σ H l st Q fun H' st1 => q H' (by
  obtain ⟨G, F, f, c⟩ := st1
  have z := Cs.weak (i := T.length + i) (A := B) (B := B') c (by rw [append_get_right]; exact h) w
  rw [append_set_right] at z
  exact ⟨G, F, f, z⟩)
theorem xt_stE {k : Bool} (ρ1' : Cl) (h : XT X e ρ ρ1 k) (q : ρ1 = ρ1' := by rfl) : XT X e ρ ρ1' k := q ▸ h
theorem xt_st0 {k : Bool} (ρ0 : Cl) (h0 : ρ0 = ρ) (h : XT X e ρ0 ρ1 k) : XT X e ρ ρ1 k := h0 ▸ h
theorem xe_st0 (ρ0 : Cl) (h0 : ρ0 = ρ) (h : XE X e ρ0 ρ1 A) : XE X e ρ ρ1 A := h0 ▸ h
/-- tests by their mirrors, which leave ρ' -/
def XTn (X : Cx) (e : Expr) (ρ ρ' : Cl) (m : Option Bool) : Prop := ∀ k, m = some k → XT X e ρ ρ' k
theorem xtm_n {m : Option Bool} (h : XTn X e ρ ρ m) : XTm X e ρ m := h
/-- the first of two states in which a value stands -/
theorem xe_eqS (h : XE X e ρ ρ1 A) (q : ρ1 = ρ2) : XE X e ρ ρ2 A := q ▸ h
end

section
variable {X : Cx} {ρ ρ1 ρ2 ρx ρ' : Cl} {A B : OA} {a b e o : Expr} {pos p apos cpos : Pos} {As Bs As0 : List OA} {a0 v0 : V} {w w0 : OA → Cl} {W : WX} {cz : Value} {α : Type}
theorem xi_weakW {Ok : Cl → Prop} {tg iter : Expr} {xs : List α} {cv : α → OA} (hi : XI X tg iter ρ ρ1 Ok xs cv) (i : Nat) {B B' : OA} (h : ρ1[i]? = some (some B)) (w : Imp B B') : XI X tg iter ρ (ρ1.set i (some B')) Ok xs cv := fun E T t σ H l st R k =>
  hi E T t σ H l st R fun J E' H' lt st1 gv => k J E' H' lt (by
    obtain ⟨G, F, f, c⟩ := st1
    have q := Cs.weak (i := T.length + i) (A := B) (B := B') c (by rw [append_get_right]; exact h) w
    rw [append_set_right] at q
    exact ⟨G, F, f, q⟩) gv
theorem xz_st (ρx' : Cl) (h : XZ X e ρ ρx W cz) (q : ρx = ρx' := by rfl) : XZ X e ρ ρx' W cz := q ▸ h
theorem xz_weak (h : XZ X e ρ ρx W cz) (i : Nat) {B B' : OA} (hi : ρx[i]? = some (some B)) (w : Imp B B') : XZ X e ρ (ρx.set i (some B')) W cz := fun E σ H st kk Q => h E σ H st (fun H' st1 => kk H' (by
  obtain ⟨G, F, f, c⟩ := st1
  exact ⟨G, F, f, Cs.weak (i := i) (A := B) (B := B') c hi w⟩)) Q
/-- an item of a list of parts, data -/
theorem xe_itD {j : Nat} {n : Int} {d : PyData} (ha : XE X a ρ ρ1 (aV v0)) (hb : XE X b ρ1 ρ2 (aD X.K (.int n))) (O : Own ρ2 v0 (aL As) w) (hn : ixN As.length n = some j) (h : As[j]? = some (aD X.K d)) (hs : PlainIx b := by exact fun _ _ => rfl) :
    XE X (.Subscript a b pos) ρ ρ2 (aD X.K d) := fun E T t σ H l st Q k =>
  wE.of (pe_ix ix_seq peS peS hs) (ha E T t σ H l st _ fun x H1 st1 => hb E (_ :: T) (_ :: t) σ H1 (by simp [l]) st1 _ fun y H2 st2 => by
    obtain ⟨G, F, Fv, Fw, f, cs, ⟨q1, _⟩, q2, _⟩ := ST.two st2
    cases q2
    obtain ⟨F1, F2, e1, ⟨p, vs, F', e4, e5, h1, c1⟩, go⟩ := O.get l cs
    subst q1 e4
    obtain ⟨w', hw, hq⟩ := c1.getD h
    have hl : vs.length = As.length := by simpa using c1.len.symm
    exact .inl ⟨p, vs, n, w', rfl, rfl, .inl (.inl h1), by unfold atI; rw [hl, hn]; exact hw, k w' H2 (ST.put f cs hq)⟩)
theorem xe_itTD {j : Nat} {n : Int} {d : PyData} (ha : XE X a ρ ρ1 (aV v0)) (hb : XE X b ρ1 ρ2 (aD X.K (.int n))) (O : Own ρ2 v0 (aT As) w) (hn : ixN As.length n = some j) (h : As[j]? = some (aD X.K d)) (hs : PlainIx b := by exact fun _ _ => rfl) :
    XE X (.Subscript a b pos) ρ ρ2 (aD X.K d) := fun E T t σ H l st Q k =>
  wE.of (pe_ix ix_tup peS peS hs) (ha E T t σ H l st _ fun x H1 st1 => hb E (_ :: T) (_ :: t) σ H1 (by simp [l]) st1 _ fun y H2 st2 => by
    obtain ⟨G, F, Fv, Fw, f, cs, ⟨q1, _⟩, q2, _⟩ := ST.two st2
    cases q2
    obtain ⟨F1, F2, e1, ⟨p, vs, F', e4, e5, h1, c1⟩, go⟩ := O.get l cs
    subst q1 e4
    obtain ⟨w', hw, hq⟩ := c1.getD h
    have hl : vs.length = As.length := by simpa using c1.len.symm
    exact ⟨p, vs, n, w', rfl, rfl, SqT.of h1, by unfold atI; rw [hl, hn]; exact hw, k w' H2 (ST.put f cs hq)⟩)
/-- xs.append(e), a list of owned things -/
theorem xe_appendOW {f : α → OA} {xs : List α} {x : α} (ho : XE X o ρ ρ (aV v0)) (h0 : Own ρ v0 (aL As0) w0) (he : XE X e ρ ρ1 (f x)) (h1 : Own ρ1 v0 (aL (xs.map f)) w) (hz : xs.length < sizeLine)
    (hbase : attributeBase o "append" X.env (eval o X.env) = eval o X.env := by rfl) (hfew : ((backTo cpos (starEach [e] X.env)).all (fun x => !x.1) && (backToKw cpos (keywordEach [] X.env)).all (fun x => x.1.isSome) && decide ([e].length + ([] : List Keyword).length + (if ([] : List Keyword).isEmpty then 0 else 1) < 30)) = true := by rfl)
    (hline : (apos.endLine == cpos.line) = true := by rfl) (hs : starEach [e] X.env = (false, eval e X.env) :: starEach [] X.env := by rfl) (hplain : (backTo cpos (starEach [] X.env)).any (·.1) = false := by rfl) :
    XE X (.Call (.Attribute o "append" apos) [e] [] cpos) ρ (w (aL ((xs ++ [x]).map f))) (aD X.K .none) := by
  have q := xe_appendW (apos := apos) (cpos := cpos) ho h0 he h1 (by simpa using hz) hbase hfew hline hs hplain
  have e : xs.map f ++ [f x] = (xs ++ [x]).map f := by simp
  rwa [e] at q
theorem xp_setOW {f : α → OA} {xs : List α} {x : α} {j : Nat} {n : Int} (ho : XE X o ρ ρ (aV v0)) (hb : XE X b ρ ρ1 (aD X.K (.int n))) (h1 : Own ρ1 v0 (aL (xs.map f)) w) (hn : ixN xs.length n = some j)
    (ha : ∀ v, assign (.Subscript o b pos) X.env v = (do
      let ov ← holding [v] (eval o X.env)
      let iv ← holding [v, ov] (eval b X.env)
      standAt pos
      holding [v, ov, iv] (setItem ov iv v)
      release [v, ov, iv] []) := by intro _; rfl) : XP X (.Subscript o b pos) (f x) ρ (w (aL ((xs.set j x).map f))) := by
  have q := xp_setLW (B := f x) ho hb h1 (by rw [List.length_map]; exact hn) ha
  rw [← List.map_set] at q
  exact q
theorem xe_lenO {f : α → OA} {xs : List α} (ha : XE X a ρ ρ1 (aV v0)) (O : Own ρ1 v0 (aL (xs.map f)) w) (hm : X.mg "len" = none) (hg : Gl X "len" := by rfl) (hs : starEach [a] X.env = [(false, eval a X.env)] := by rfl) (hpl : (backTo pos (starEach [] X.env)).any (·.1) = false := by rfl) : XE X (.Call (.Name "len" p) [a] [] pos) ρ ρ1 (aD X.K (.int ((xs.length : Nat) : Int))) := by
  have q := xe_len (p := p) (pos := pos) ha (rsW O) hm hg hs hpl
  rwa [List.length_map] at q
end

def rminD : List V → List V → Hp → VK → Prop := fun xs zs H Q => ∃ (a : Addr) (kvs : List (Key × V)) (is : List Int) (d : Int), xs = [.ref a] ∧ zs = [.int d] ∧ H a = some (.dK kvs) ∧ kvs.map (·.1) = is.map Sum.inl ∧ Q (.int ((minI is).getD d)) H
theorem cr_minD {X : Cx} (hc : X.calm = true) : CallRK X (.builtin "min") [Str.ofString "default"] rminD := by
  intro pins s σ H xs zs us ws0 Q I r rz h
  obtain ⟨a, kvs, is, d, rfl, rfl, ha, hv, q⟩ := h
  obtain rfl := Vals.ref1 r
  obtain ⟨w1, rfl, e1⟩ := vals1 rz
  obtain ⟨td, rfl⟩ := e1
  obtain ⟨_, hsys, vs, rel, dof⟩ := dk_of I.hok ha
  obtain ⟨ep, dat⟩ := dof.dictAt
  obtain ⟨ob, es, ho, hex, hdat, hko, hpr, hnd⟩ := id dat
  have hlt : a < s.heap.objs.size := Heap.lt_size ho
  have hkeys : vs.map (·.1) = is.map Sum.inl := (KV.keys rel).symm.trans hv
  have hlv : vs.length = is.length := by
    have e1 := congrArg List.length hkeys
    rw [List.length_map, List.length_map] at e1
    exact e1
  have hval : ∀ (i : Nat) (v : Value), (∃ k x, vs[i]? = some (k, x) ∧ (mixKind X.prog X.w).is k v = true) → ∃ t, v = Value.int (is.getD i 0) t := fun i v ⟨k, x, hk, hkey⟩ => by
    have e1 : (vs.map (·.1))[i]? = some k := by rw [List.getElem?_map, hk] <;> rfl
    rw [hkeys, List.getElem?_map] at e1
    obtain ⟨j, hj, e2⟩ := Option.map_eq_some_iff.mp e1
    subst e2
    have hi : Value.isInt j v = true := hkey
    obtain ⟨t, e3⟩ := Value.isInt_shape (k := j) (v := v) hi
    refine ⟨t, ?_⟩
    rw [e3, List.getD_eq_getElem?_getD, hj] <;> rfl
  show wpAny _ _ (call (.builtin "min") [.ref a] [(Str.ofString "default", Value.int d td)]) _ _ s
  refine PySem.call_min_walkD (wpAny_pyIter_dict (knd := mixKind X.prog X.w) hsys dat ?_)
  have fin : ∀ {s' : Shared} {oo : Obj}, Moved [s.heap.objs.size] (fun a b => b = a) { s with heap := s.heap.push oo } s' → ∃ h' tk, s' = { s with heap := h', toks := tk } ∧ ∀ b o, s.heap.get? b = some o → h'.get? b = some o := fun {s' oo} m => PySem.W.moved_old rfl rfl m
  refine ⟨_, _, _, _, _, _, _, s.heap, _, rfl, (Walks.dictKeys (knd := mixKind X.prog X.w) (A := X.A.in1) (I.ok.hd hc) s.heap.objs.size a (Nat.ne_of_lt hlt) vs ep).toS,
    ⟨⟨_, Heap.get?_push_size _ rfl, rfl, rfl⟩, dat.keep fun b u e => Heap.get?_push_of_some _ e⟩, fun b hb => ?_, fun b o e hb => ?_, fun b o e => Heap.get?_push_of_some _ e, fun hz s' m => ?_, fun hp => ⟨fun i j vi vj s Q E _ => CmpOf.ints_lt (fun i => is.getD i 0) hval i j vi vj s Q E, fun v s' hP m => ?_⟩⟩
  · show b < (s.heap.push _).objs.size
    rw [Heap.size_push]
    rcases List.mem_cons.mp hb with e | hb
    · rw [e]
      exact Nat.lt_succ_self _
    · rw [List.mem_singleton.mp hb]
      exact Nat.lt_succ_of_lt hlt
  · have e1 : b = s.heap.objs.size := List.mem_singleton.mp hb
    have e2 := Heap.lt_size e
    rw [e1] at e2
    exact absurd e2 (Nat.lt_irrefl _)
  · obtain ⟨h', tk, rfl, hk'⟩ := fin m
    have e0 : is = [] := List.eq_nil_of_length_eq_zero (by omega)
    subst e0
    exact ⟨.int d, H, I.kept (t' := tk) hk', ⟨td, rfl⟩, q⟩
  · obtain ⟨h', tk, rfl, hk'⟩ := fin m
    obtain ⟨t, rfl⟩ := hval _ v hP
    obtain ⟨b1, b2⟩ := argBest_lt (fun i => is.getD i 0) (vs.length - 1)
    refine ⟨.int _, H, I.kept (t' := tk) hk', ⟨t, rfl⟩, ?_⟩
    have hp1 : 0 < vs.length := hp
    have hb : argBest (fun i j => decide (is.getD i 0 < is.getD j 0)) (vs.length - 1) < is.length := Nat.lt_of_le_of_lt b1 (Nat.lt_of_lt_of_eq (Nat.sub_lt hp1 Nat.one_pos) hlv)
    cases his : is with
    | nil => rw [his] at hlv; exact absurd hp1 (by rw [hlv]; exact Nat.lt_irrefl 0)
    | cons x xs =>
      obtain ⟨m1, m2⟩ := foldl_min xs x
      rw [his] at q
      have e : (x :: xs).getD (argBest (fun i j => decide ((x :: xs).getD i 0 < (x :: xs).getD j 0)) (vs.length - 1)) 0 = xs.foldl min x := by
        rw [his] at hb b2
        refine Int.le_antisymm ?_ ?_
        · obtain ⟨i, hi, ei⟩ := List.mem_iff_getElem.mp m1
          have e2 : (x :: xs).getD i 0 = xs.foldl min x := by rw [List.getD_eq_getElem?_getD, List.getElem?_eq_getElem hi, ← ei] <;> rfl
          rw [← e2]
          exact b2 i (by rw [his] at hlv; omega)
        · refine m2 _ ?_
          rw [List.getD_eq_getElem?_getD, List.getElem?_eq_getElem hb]
          exact List.getElem_mem hb

      rw [e]
      exact q

def rmaxD : List V → List V → Hp → VK → Prop := fun xs zs H Q => ∃ (a : Addr) (kvs : List (Key × V)) (is : List Int) (d : Int), xs = [.ref a] ∧ zs = [.int d] ∧ H a = some (.dK kvs) ∧ kvs.map (·.1) = is.map Sum.inl ∧ Q (.int ((maxI is).getD d)) H
theorem cr_maxD {X : Cx} (hc : X.calm = true) : CallRK X (.builtin "max") [Str.ofString "default"] rmaxD := by
  intro pins s σ H xs zs us ws0 Q I r rz h
  obtain ⟨a, kvs, is, d, rfl, rfl, ha, hv, q⟩ := h
  obtain rfl := Vals.ref1 r
  obtain ⟨w1, rfl, e1⟩ := vals1 rz
  obtain ⟨td, rfl⟩ := e1
  obtain ⟨_, hsys, vs, rel, dof⟩ := dk_of I.hok ha
  obtain ⟨ep, dat⟩ := dof.dictAt
  obtain ⟨ob, es, ho, hex, hdat, hko, hpr, hnd⟩ := id dat
  have hlt : a < s.heap.objs.size := Heap.lt_size ho
  have hkeys : vs.map (·.1) = is.map Sum.inl := (KV.keys rel).symm.trans hv
  have hlv : vs.length = is.length := by
    have e1 := congrArg List.length hkeys
    rw [List.length_map, List.length_map] at e1
    exact e1
  have hval : ∀ (i : Nat) (v : Value), (∃ k x, vs[i]? = some (k, x) ∧ (mixKind X.prog X.w).is k v = true) → ∃ t, v = Value.int (is.getD i 0) t := fun i v ⟨k, x, hk, hkey⟩ => by
    have e1 : (vs.map (·.1))[i]? = some k := by rw [List.getElem?_map, hk] <;> rfl
    rw [hkeys, List.getElem?_map] at e1
    obtain ⟨j, hj, e2⟩ := Option.map_eq_some_iff.mp e1
    subst e2
    have hi : Value.isInt j v = true := hkey
    obtain ⟨t, e3⟩ := Value.isInt_shape (k := j) (v := v) hi
    refine ⟨t, ?_⟩
    rw [e3, List.getD_eq_getElem?_getD, hj] <;> rfl
  show wpAny _ _ (call (.builtin "max") [.ref a] [(Str.ofString "default", Value.int d td)]) _ _ s
  refine PySem.call_max_walkD (wpAny_pyIter_dict (knd := mixKind X.prog X.w) hsys dat ?_)
  have fin : ∀ {s' : Shared} {oo : Obj}, Moved [s.heap.objs.size] (fun a b => b = a) { s with heap := s.heap.push oo } s' → ∃ h' tk, s' = { s with heap := h', toks := tk } ∧ ∀ b o, s.heap.get? b = some o → h'.get? b = some o := fun {s' oo} m => PySem.W.moved_old rfl rfl m
  refine ⟨_, _, _, _, _, _, _, s.heap, _, rfl, (Walks.dictKeys (knd := mixKind X.prog X.w) (A := X.A.in1) (I.ok.hd hc) s.heap.objs.size a (Nat.ne_of_lt hlt) vs ep).toS,
    ⟨⟨_, Heap.get?_push_size _ rfl, rfl, rfl⟩, dat.keep fun b u e => Heap.get?_push_of_some _ e⟩, fun b hb => ?_, fun b o e hb => ?_, fun b o e => Heap.get?_push_of_some _ e, fun hz s' m => ?_, fun hp => ⟨fun i j vi vj s Q E _ => CmpOf.ints_gt (fun i => is.getD i 0) hval i j vi vj s Q E, fun v s' hP m => ?_⟩⟩
  · show b < (s.heap.push _).objs.size
    rw [Heap.size_push]
    rcases List.mem_cons.mp hb with e | hb
    · rw [e]
      exact Nat.lt_succ_self _
    · rw [List.mem_singleton.mp hb]
      exact Nat.lt_succ_of_lt hlt
  · have e1 : b = s.heap.objs.size := List.mem_singleton.mp hb
    have e2 := Heap.lt_size e
    rw [e1] at e2
    exact absurd e2 (Nat.lt_irrefl _)
  · obtain ⟨h', tk, rfl, hk'⟩ := fin m
    have e0 : is = [] := List.eq_nil_of_length_eq_zero (by omega)
    subst e0
    exact ⟨.int d, H, I.kept (t' := tk) hk', ⟨td, rfl⟩, q⟩
  · obtain ⟨h', tk, rfl, hk'⟩ := fin m
    obtain ⟨t, rfl⟩ := hval _ v hP
    obtain ⟨b1, b2⟩ := argBest_gt (fun i => is.getD i 0) (vs.length - 1)
    refine ⟨.int _, H, I.kept (t' := tk) hk', ⟨t, rfl⟩, ?_⟩
    have hp1 : 0 < vs.length := hp
    have hb : argBest (fun i j => decide (is.getD i 0 > is.getD j 0)) (vs.length - 1) < is.length := Nat.lt_of_le_of_lt b1 (Nat.lt_of_lt_of_eq (Nat.sub_lt hp1 Nat.one_pos) hlv)
    cases his : is with
    | nil => rw [his] at hlv; exact absurd hp1 (by rw [hlv]; exact Nat.lt_irrefl 0)
    | cons x xs =>
      obtain ⟨m1, m2⟩ := foldl_max xs x
      rw [his] at q
      have e : (x :: xs).getD (argBest (fun i j => decide ((x :: xs).getD i 0 > (x :: xs).getD j 0)) (vs.length - 1)) 0 = xs.foldl max x := by
        rw [his] at hb b2
        refine Int.le_antisymm ?_ ?_
        · refine m2 _ ?_
          rw [List.getD_eq_getElem?_getD, List.getElem?_eq_getElem hb]
          exact List.getElem_mem hb
        · obtain ⟨i, hi, ei⟩ := List.mem_iff_getElem.mp m1
          have e2 : (x :: xs).getD i 0 = xs.foldl max x := by rw [List.getD_eq_getElem?_getD, List.getElem?_eq_getElem hi, ← ei] <;> rfl
          rw [← e2]
          exact b2 i (by rw [his] at hlv; omega)

      rw [e]
      exact q

section
variable {X : Cx} {ρ ρ1 ρ2 : Cl} {o e : Expr} {v0 : V} {p pos kpos : Pos} {w : OA → Cl} {α : Type} [Cd α] {kvs : List (Int × α)}
/-- min(d, default=e) -/
theorem xe_dminD {d : Int} (hc : X.calm = true) (ho : XE X o ρ ρ (aV v0)) (O : Own ρ2 v0 (aDK X.K (dD kvs)) w) (he : XE X e ρ ρ2 (aD X.K (.int d))) (hm : X.mg "min" = none) (hg : Gl X "min" := by rfl) (hs : starEach [o] X.env = (false, eval o X.env) :: starEach [] X.env := by rfl)
    (hpl : (backTo pos (starEach [o] X.env)).any (·.1) = false := by rfl) (h1 : backTo pos (starEach [o] X.env) = (false, eval o X.env) :: backTo pos (starEach [] X.env) := by rfl)
    (hall : (backToKw pos (keywordEach [⟨some "default", e, kpos⟩] X.env)).all (·.1.isSome) = true := by rfl) (hnone : (backToKw pos (keywordEach [⟨some "default", e, kpos⟩] X.env)).any (·.1.isNone) = false := by rfl) (hks : (backToKw pos (keywordEach [⟨some "default", e, kpos⟩] X.env)).filterMap (·.1) = [Str.ofString "default"] := by rfl) :
    XE X (.Call (.Name "min" p) [o] [⟨some "default", e, kpos⟩] pos) ρ ρ2 (aD X.K (.int ((minI (dKeys kvs)).getD d))) := fun E T t σ H l st Q k =>
  wE.of (pe_callBK (cr_minD hc) hg hm (by decide +kernel) (pa_cons peS pa_nil hs) (pk_cons peS pk_nil) (by decide) (by decide) h1 hpl hall hnone hks) (ho E T t σ H l st _ fun u H1 st1 => by
    have e0 := ST.topV st1
    subst e0
    refine he E (_ :: T) (_ :: t) σ H1 (by simp [l]) st1 _ fun y H2 st2 => ?_
    obtain ⟨G, F, f, c, q⟩ := ST.top (ST.drop2 st2)
    cases q
    obtain ⟨q, ws, e1, h1, h2⟩ := ST.seeD l c O
    exact ⟨q, ws, dKeys kvs, d, by rw [e1], rfl, h1, by rw [h2.keys, dKeys_d], k _ _ (ST.put f c (.int _))⟩)
/-- max(d, default=e) -/
theorem xe_dmaxD {d : Int} (hc : X.calm = true) (ho : XE X o ρ ρ (aV v0)) (O : Own ρ2 v0 (aDK X.K (dD kvs)) w) (he : XE X e ρ ρ2 (aD X.K (.int d))) (hm : X.mg "max" = none) (hg : Gl X "max" := by rfl) (hs : starEach [o] X.env = (false, eval o X.env) :: starEach [] X.env := by rfl)
    (hpl : (backTo pos (starEach [o] X.env)).any (·.1) = false := by rfl) (h1 : backTo pos (starEach [o] X.env) = (false, eval o X.env) :: backTo pos (starEach [] X.env) := by rfl)
    (hall : (backToKw pos (keywordEach [⟨some "default", e, kpos⟩] X.env)).all (·.1.isSome) = true := by rfl) (hnone : (backToKw pos (keywordEach [⟨some "default", e, kpos⟩] X.env)).any (·.1.isNone) = false := by rfl) (hks : (backToKw pos (keywordEach [⟨some "default", e, kpos⟩] X.env)).filterMap (·.1) = [Str.ofString "default"] := by rfl) :
    XE X (.Call (.Name "max" p) [o] [⟨some "default", e, kpos⟩] pos) ρ ρ2 (aD X.K (.int ((maxI (dKeys kvs)).getD d))) := fun E T t σ H l st Q k =>
  wE.of (pe_callBK (cr_maxD hc) hg hm (by decide +kernel) (pa_cons peS pa_nil hs) (pk_cons peS pk_nil) (by decide) (by decide) h1 hpl hall hnone hks) (ho E T t σ H l st _ fun u H1 st1 => by
    have e0 := ST.topV st1
    subst e0
    refine he E (_ :: T) (_ :: t) σ H1 (by simp [l]) st1 _ fun y H2 st2 => ?_
    obtain ⟨G, F, f, c, q⟩ := ST.top (ST.drop2 st2)
    cases q
    obtain ⟨q, ws, e1, h1, h2⟩ := ST.seeD l c O
    exact ⟨q, ws, dKeys kvs, d, by rw [e1], rfl, h1, by rw [h2.keys, dKeys_d], k _ _ (ST.put f c (.int _))⟩)
end
end Mr

set_option Elab.async false
set_option linter.all false
set_option maxRecDepth 100000
/-! comprehensions with tuples of names as their targets; dicts by comprehensions; sorted(xs) of triples of ints -/
namespace Mr
open PySem PySem.Spec PyProof.Rows L2
def gNms : List Nat → TGs
  | [] => gNil
  | i :: is => gCons (gName i) (gNms is)
def setD (K : PySem.W.Frag) (ρ : Cl) : List Nat → List PyData → Cl
  | i :: is, d :: ds => setD K (ρ.set i (some (aD K d))) is ds
  | _, _ => ρ
def setN (ρ : Cl) : List Nat → Cl
  | [] => ρ
  | i :: is => setN (ρ.set i none) is
theorem setD_len (K : PySem.W.Frag) : ∀ (is : List Nat) (ds : List PyData) (ρ : Cl), (setD K ρ is ds).length = ρ.length
  | [], _, ρ => by cases ‹List PyData› <;> rfl
  | _ :: _, [], ρ => rfl
  | i :: is, d :: ds, ρ => by
    show (setD K (ρ.set i _) is ds).length = _
    rw [setD_len K is ds, List.length_set]
theorem wipe_set {σ : L2.St} {i : Nat} {x : Option V} : ∀ {is : List Nat}, i ∈ is → wipe (σ.set i x) is = wipe σ is
  | j :: js, h => by
    show (wipe (σ.set i x) js).set j none = (wipe σ js).set j none
    by_cases q : i ∈ js
    · rw [wipe_set q]
    · have e : i = j := by
        rcases List.mem_cons.mp h with e | e
        · exact e
        · exact absurd e q
      subst e
      have key : ∀ (ks : List Nat), i ∉ ks → wipe (σ.set i x) ks = (wipe σ ks).set i x := fun ks => by
        induction ks with
        | nil => intro _; rfl
        | cons k ks ih =>
          intro hk
          show (wipe (σ.set i x) ks).set k none = ((wipe σ ks).set k none).set i x
          rw [ih (fun z => hk (List.mem_cons_of_mem _ z)), List.set_comm _ _ (fun z : i = k => hk (by rw [z]; exact List.mem_cons_self))]
      rw [key js q, set_set]
theorem tgs_names {E : Ent} {K : PySem.W.Frag} {T : Cl} {t : L2.St} {is0 : List Nat} {σ0 : L2.St} (l : T.length = t.length) {H : Hp} {P : L2.St → Hp → Prop} : ∀ (is : List Nat) (ds : List PyData) (vs : List V) (ρ : Cl) (σ : L2.St), (∀ i ∈ is, i ∈ is0) → (∀ i ∈ is, i < ρ.length) → is.length = ds.length → vs.length = ds.length → wipe σ is0 = wipe σ0 is0 →
    ST E ((ds.map (aD K)).map some ++ (T ++ ρ)) (vs.map some ++ (t ++ σ)) H → (∀ σ2, ST E (T ++ setD K ρ is ds) (t ++ σ2) H → wipe σ2 is0 = wipe σ0 is0 → P σ2 H) → gNms is vs σ H P
  | [], [], [], ρ, σ, _, _, _, _, hw, st, k => ⟨rfl, k σ st hw⟩
  | [], _ :: _, _, _, _, _, _, h, _, _, _, _ => by simp at h
  | [], [], _ :: _, _, _, _, _, _, h, _, _, _ => by simp at h
  | _ :: _, [], _, _, _, _, _, h, _, _, _, _ => by simp at h
  | _ :: _, _ :: _, [], _, _, _, _, _, h, _, _, _ => by simp at h
  | i :: is, d :: ds, v :: vs, ρ, σ, hi, hl, h1, h2, hw, st, k => by
    refine ⟨v, vs, rfl, ?_⟩
    have st2 : ST E (((ds.map (aD K)).map some ++ T) ++ ρ.set i (some (aD K d))) ((vs.map some ++ t) ++ σ.set i (some v)) H := ST.assignT (T := (ds.map (aD K)).map some ++ T) (t := vs.map some ++ t) (by simp at h2; simp [l, h2]) (by simpa using st) (hl i (by simp))
    refine tgs_names l is ds vs (ρ.set i (some (aD K d))) (σ.set i (some v)) (fun j hj => hi j (by simp [hj])) (fun j hj => by rw [List.length_set]; exact hl j (by simp [hj])) (by simpa using h1) (by simpa using h2) ?_ (by simpa using st2) k
    rw [wipe_set (hi i (by simp)), hw]
theorem Cs.forgets {G H : Hp} {T : Cl} {t : L2.St} (l : T.length = t.length) : ∀ {is : List Nat} {ρ : Cl} {σ : L2.St} {F : List Addr}, Cs G H (T ++ ρ) (t ++ σ) F → ∃ F', F'.Sublist F ∧ Cs G H (T ++ setN ρ is) (t ++ σ) F'
  | [], ρ, σ, F, c => ⟨F, .refl _, c⟩
  | i :: is, ρ, σ, F, c => by
    obtain ⟨F1, s1, c1⟩ := c.forgetT (i := i) (x := none) l
    have c2 : Cs G H (T ++ ρ.set i none) (t ++ σ) F1 := by
      by_cases q : i < ρ.length
      · exact c1.freeT l (List.getElem?_set_self q)
      · have e1 : ρ.set i none = ρ := List.set_eq_of_length_le (by omega)
        have hl : ρ.length = σ.length := by have := c.len; simp [l] at this; exact this
        have e2 : σ.set i none = σ := List.set_eq_of_length_le (by omega)
        rw [e1, e2] at c1
        rw [e1]
        exact c1
    obtain ⟨F2, s2, c3⟩ := Cs.forgets l (is := is) c2
    exact ⟨F2, s2.trans s1, c3⟩
/-- values in free cells are nobody's -/
theorem Cs.agree {G H : Hp} : ∀ {ρ : Cl} {σ σ' : L2.St} {F : List Addr}, Cs G H ρ σ F → σ.length = σ'.length → (∀ (j : Nat) (A : OA), ρ[j]? = some (some A) → σ[j]? = σ'[j]?) → Cs G H ρ σ' F
  | [], [], [], _, c, _, _ => c
  | [], _ :: _, _, _, c, _, _ => c.elim
  | [], [], _ :: _, _, _, l, _ => by simp at l
  | none :: _, [], _, _, c, _, _ => c.elim
  | some _ :: _, [], _, _, c, _, _ => c.elim
  | _ :: _, _ :: _, [], _, _, l, _ => by simp at l
  | none :: ρ, x :: σ, y :: σ', F, c, l, h => Cs.agree (ρ := ρ) (σ := σ) (σ' := σ') c (by simpa using l) fun j A e => by simpa using h (j + 1) A (by simpa using e)
  | some A :: ρ, x :: σ, y :: σ', F, c, l, h => by
    obtain ⟨v, F1, F2, e1, e2, a, c⟩ := c
    have e : x = y := by simpa using h 0 A rfl
    exact ⟨v, F1, F2, e ▸ e1, e2, a, Cs.agree c (by simpa using l) fun j A e => by simpa using h (j + 1) A (by simpa using e)⟩
theorem wipe_get {σ : L2.St} : ∀ {is : List Nat} {j : Nat}, j ∉ is → (wipe σ is)[j]? = σ[j]?
  | [], _, _ => rfl
  | i :: is, j, h => by
    show ((wipe σ is).set i none)[j]? = _
    rw [List.getElem?_set_ne (fun z : i = j => h (by rw [z]; exact List.mem_cons_self)), wipe_get (fun z => h (List.mem_cons_of_mem _ z))]
theorem setN_get (ρ : Cl) : ∀ (is : List Nat) (j : Nat) (A : OA), (setN ρ is)[j]? = some (some A) → j ∉ is ∧ ρ[j]? = some (some A)
  | [], j, A, h => ⟨by simp, h⟩
  | i :: is, j, A, h => by
    obtain ⟨h1, h2⟩ := setN_get (ρ.set i none) is j A h
    by_cases q : i = j
    · subst q
      by_cases z : i < ρ.length
      · rw [List.getElem?_set_self z] at h2; cases h2
      · rw [List.getElem?_eq_none (by rw [List.length_set]; omega)] at h2; cases h2
    · rw [List.getElem?_set_ne q] at h2
      exact ⟨fun z => (List.mem_cons.mp z).elim (fun e => q e.symm) h1, h2⟩
/-- slots that nothing is said of may hold anything -/
theorem ST.rewipe {E : Ent} {T ρ : Cl} {t σ σ' : L2.St} {H : Hp} {is : List Nat} (l : T.length = t.length) (st : ST E (T ++ ρ) (t ++ σ) H) (hw : wipe σ is = wipe σ' is) : ST E (T ++ setN ρ is) (t ++ σ') H := by
  obtain ⟨G, F, f, c⟩ := st
  obtain ⟨F1, s1, c1⟩ := Cs.forgets l (is := is) c
  have hls : σ.length = σ'.length := by rw [← wipe_length σ is, ← wipe_length σ' is, hw]
  refine ⟨G, F1, f.less s1, c1.agree (by simp [hls]) fun j A e => ?_⟩
  by_cases q : j < T.length
  · rw [List.getElem?_append_left (by omega), List.getElem?_append_left (by omega)]
  · rw [List.getElem?_append_right (by omega)] at e
    rw [List.getElem?_append_right (by omega), List.getElem?_append_right (by omega)]
    obtain ⟨h1, h2⟩ := setN_get ρ is _ A e
    rw [← l, ← wipe_get (σ := σ) h1, ← wipe_get (σ := σ') h1, hw]
section
variable {X : Cx} {ρ ρ1 : Cl} {e tg iter elt c : Expr} {pos p tpos : Pos} {α δ : Type}
/-- as XC, the target a tuple of names (at the places is) -/
def XCT (X : Cx) (ts : List Expr) (kk : Nat) (tpos : Pos) (is : List Nat) (elt iter : Expr) (ifs : List Expr) (scope : Scope) (ρ ρ' : Cl) (A : OA) : Prop := ∃ (tt : TT) (te : TE), (∀ s0 H0 C cl fp, PTs (blkX X scope s0 H0 C cl fp) ifs tt) ∧ (∀ s0 H0 C cl fp, PE (blkX X scope s0 H0 C cl fp) elt te) ∧
  ∀ (E : Ent) (T : Cl) (t σ : L2.St) (H : Hp), T.length = t.length → ST E (T ++ ρ) (t ++ σ) H → ∀ Q : VK, (∀ v H', ST E (some A :: (T ++ ρ')) (some v :: (t ++ σ)) H' → Q v H') → tLc (wI X (.Tuple ts kk tpos) iter) (gTup X.K is.length (gNms is)) tt te is σ H Q
variable {scope : Scope} {ts : List Expr} {kk : Nat} {is : List Nat}
theorem xe_lcT {ρ' : Cl} {A : OA} {ifs : List Expr} {own : List (Str × Nat)} (h : XCT X ts kk tpos (own.map (·.2)) elt iter ifs scope ρ ρ' A) (hc : X.calm = true) (hN : X.N.Nodup) (ok : BlkOk X.N X.env.scope scope own) (hg : ∀ s0 H0 C cl fp, PGs (blkX X scope s0 H0 C cl fp) ts (gNms (own.map (·.2))))
    (hn : ∀ s0 H0 C cl fp, (assignEach ts (blkX X scope s0 H0 C cl fp).env).length = (own.map (·.2)).length := by intros; rfl) (hst : ∀ s0 H0 C cl fp, (assignEach ts (blkX X scope s0 H0 C cl fp).env).findIdx? (·.1) = none := by intros; rfl) (hs : ∀ x, foldedSetIterable iter X.env x = pure x := by intro _; rfl) :
    XE X (.ListComp elt [⟨.Tuple ts kk tpos, iter, ifs, 0⟩] scope pos) ρ ρ' A := fun E T t σ H l st Q k => by
  obtain ⟨tt, te, h1, h2, h3⟩ := h
  exact wE.of (pe_lc (own := own) hc hN piS ok (fun s H C cl fp => pg_tup (X := blkX X scope s H C cl fp) hc (hg s H C cl fp) (hn s H C cl fp) (hst s H C cl fp)) h1 h2 hs) (h3 E T t σ H l st Q k)
theorem lc_coreT {Ok : Cl → Prop} {xs : List α} {dv : α → List PyData} {tb : α → Option Bool} {fe : α → Option δ} {el : δ → OA} {E E' : Ent} {T : Cl} {t σ : L2.St} {H1 : Hp} {D : Addr} {J : It} {tt : TT} {te : TE} {Qd : Hp → Prop} {r : List δ × Unit} {N : Cl}
    (l : T.length = t.length) (hr : compG (fun _ x => tb x) (fun _ x => (fe x).map fun y => (y, ())) xs () [] = some r) (hz : xs.length ≤ 1000000) (hD : H1 D = none) (st : ST E' (T ++ ρ1) (t ++ σ) H1) (gv : Gives J E' Ok xs (fun x => aD X.K (.tuple (dv x)))) (eN : N = setN ρ1 is) (hok : Ok N) (hN : ∀ i ∈ is, i < N.length) (hNN : setN N is = N) (hlen : ∀ x, (dv x).length = is.length)
    (ht : ∀ x k, tb x = some k → ∀ (T : Cl) (t σ : L2.St) (H : Hp), T.length = t.length → ST E' (T ++ setD X.K N is (dv x)) (t ++ σ) H → ∀ Q : Bool → Hp → Prop, (∀ H', ST E' (T ++ setD X.K N is (dv x)) (t ++ σ) H' → Q k H') → tt σ H Q)
    (he : ∀ x y, fe x = some y → ∀ (T : Cl) (t σ : L2.St) (H : Hp), T.length = t.length → ST E' (T ++ setD X.K N is (dv x)) (t ++ σ) H → ∀ Q : VK, (∀ v H', ST E' (some (el y) :: (T ++ setD X.K N is (dv x))) (some v :: (t ++ σ)) H' → Q v H') → te σ H Q)
    (hsD : ∀ x, setN (setD X.K N is (dv x)) is = N)
    (hd : ∀ H', ST E' (some (pin (.ref D) (aL (r.1.map el))) :: (T ++ N)) (some (.ref D) :: (t ++ σ)) H' → Qd H') :
    ∃ W : Nat → Nat → Hp → Prop, (∃ m, W 0 m (upd H1 D (.lst []))) ∧ ∀ n m H, W n m H →
      (J.stop n H ∧ Qd H) ∨ (J.go n H ∧ ∃ Nx : Hp → Prop, (∀ H', Nx H' → ∃ m', m' < m ∧ W (n + 1) m' H') ∧ ∀ x H', J.yld n H x H' → gTup X.K is.length (gNms is) x (wipe σ is) H' fun σ2 H2 => wipe σ2 is = wipe σ is ∧ tt σ2 H2 fun b H3 =>
        if b = true then te σ2 H3 fun y H4 => ∃ acc, H4 D = some (.lst acc) ∧ acc.length < sizeLine ∧ Nx (upd H4 D (.lst (acc ++ [y]))) else Nx H3) := by
  have ww : ∀ σ : L2.St, wipe (wipe σ is) is = wipe σ is := fun σ => by
    refine List.ext_getElem? fun j => ?_
    by_cases q : j ∈ is
    · have : ∀ (is : List Nat) (σ : L2.St), j ∈ is → j < σ.length → (wipe σ is)[j]? = some none := fun is => by
        induction is with
        | nil => intro σ h; simp at h
        | cons i is ih =>
          intro σ h hl
          show ((wipe σ is).set i none)[j]? = _
          by_cases z : i = j
          · subst z
            rw [List.getElem?_set_self (by rw [wipe_length]; exact hl)]
          · rw [List.getElem?_set_ne z]
            exact ih σ ((List.mem_cons.mp h).elim (fun e => absurd e.symm z) id) hl
      by_cases hl : j < σ.length
      · rw [this is _ q (by rw [wipe_length]; exact hl), this is _ q hl]
      · rw [List.getElem?_eq_none (by rw [wipe_length, wipe_length]; omega), List.getElem?_eq_none (by rw [wipe_length]; omega)]
    · rw [wipe_get q]
  subst eN
  refine ⟨fun n m H => m = xs.length - n ∧ n ≤ xs.length ∧ ∃ acc, acc.length ≤ n ∧ compG (fun _ x => tb x) (fun _ x => (fe x).map fun y => (y, ())) (xs.drop n) () acc = some r ∧ ST E' (some (pin (.ref D) (aL (acc.map el))) :: (T ++ setN ρ1 is)) (some (.ref D) :: (t ++ σ)) H, ⟨xs.length, by simp, Nat.zero_le _, [], Nat.le_refl _, by simpa using hr, ?_⟩, ?_⟩
  · obtain ⟨G, F, f, c⟩ := ST.rewipe l st (is := is) rfl
    obtain ⟨f1, keep⟩ := f.step (Fa := []) (Fr := F) (by simp) (Frm.alloc (o := .lst []) f.gh hD)
    exact ⟨G, [D] ++ F, f1, .ref D, [D], F, rfl, rfl, ⟨rfl, D, [], [], rfl, rfl, upd_same, rfl⟩, c.mono (.refl _) f1.gh keep⟩
  · rintro n m H ⟨rfl, hn, acc, hacc, hf, st⟩
    have l' : (some (pin (V.ref D) (aL (acc.map el))) :: T).length = (some (V.ref D) :: t).length := by simp [l]
    by_cases hlt : n < xs.length
    · have ed : xs.drop n = xs[n] :: xs.drop (n + 1) := List.drop_eq_getElem_cons hlt
      rw [ed] at hf
      refine .inr ⟨gv.go n hlt (_ :: T) (_ :: t) _ _ _ l' hok st, fun H' => ∃ acc', acc'.length ≤ n + 1 ∧ compG (fun _ x => tb x) (fun _ x => (fe x).map fun y => (y, ())) (xs.drop (n + 1)) () acc' = some r ∧ ST E' (some (pin (.ref D) (aL (acc'.map el))) :: (T ++ setN ρ1 is)) (some (.ref D) :: (t ++ σ)) H',
        fun H' ⟨acc', q0, q1, q2⟩ => ⟨xs.length - (n + 1), by omega, rfl, hlt, acc', q0, q1, q2⟩, fun v H' y => ?_⟩
      have st1 := gv.yld n xs[n] v H H' (List.getElem?_eq_getElem hlt) (_ :: T) (_ :: t) _ _ l' hok st y
      have st1 : ST E' ((some (aD X.K (.tuple (dv xs[n]))) :: (some (pin (.ref D) (aL (acc.map el))) :: T)) ++ setN (setN ρ1 is) is) ((some v :: some (.ref D) :: t) ++ wipe σ is) H' := ST.rewipe (T := some (aD X.K (.tuple (dv xs[n]))) :: some (pin (.ref D) (aL (acc.map el))) :: T) (t := some v :: some (.ref D) :: t) (by simp [l]) st1 (ww σ).symm
      rw [hNN] at st1
      obtain ⟨a, vs, e1, h1, h2, st2⟩ := ST.untup st1
      refine ⟨a, vs, e1, h1, h2.trans (hlen _), ?_⟩
      refine tgs_names (E := E') (K := X.K) (T := some (pin (.ref D) (aL (acc.map el))) :: T) (t := some (.ref D) :: t) (is0 := is) (σ0 := wipe σ is) l' is (dv xs[n]) vs (setN ρ1 is) (wipe σ is) (fun i hi => hi) hN (hlen _).symm h2 rfl st2 fun σ2 st3 hw => ?_
      have hw2 : wipe σ2 is = wipe σ is := by rw [hw, ww]
      refine ⟨hw2, ?_⟩
      have hf : ((tb xs[n]).bind fun b => if b = true then ((fe xs[n]).map fun y => (y, ())).bind fun o => compG (fun _ x => tb x) (fun _ x => (fe x).map fun y => (y, ())) (xs.drop (n + 1)) o.2 (acc ++ [o.1]) else compG (fun _ x => tb x) (fun _ x => (fe x).map fun y => (y, ())) (xs.drop (n + 1)) () acc) = some r := hf
      have back : ∀ {acc' : List δ} {H' : Hp}, ST E' (some (pin (.ref D) (aL (acc'.map el))) :: (T ++ setD X.K (setN ρ1 is) is (dv xs[n]))) (some (.ref D) :: (t ++ σ2)) H' → ST E' (some (pin (.ref D) (aL (acc'.map el))) :: (T ++ setN ρ1 is)) (some (.ref D) :: (t ++ σ)) H' := fun {acc' H'} st => by
        have q := ST.rewipe (T := some (pin (.ref D) (aL (acc'.map el))) :: T) (t := some (.ref D) :: t) (σ' := σ) (by simp [l]) st hw2
        rw [hsD] at q
        exact q
      cases hb : tb xs[n] with
      | none => rw [hb] at hf; cases hf
      | some b =>
        rw [hb] at hf
        refine ht xs[n] b hb (_ :: T) (_ :: t) _ H' l' st3 _ fun H2 st4 => ?_
        cases b with
        | false => exact ⟨acc, by omega, hf, back st4⟩
        | true =>
          cases hfe : fe xs[n] with
          | none => rw [hfe] at hf; cases hf
          | some o =>
            rw [hfe] at hf
            refine he xs[n] o hfe (_ :: T) (_ :: t) _ H2 l' st4 _ fun yv H3 st5 => ?_
            obtain ⟨p, vs', e1, h2, hl, go⟩ := ST.modL (T := []) (t := []) (i := 0) rfl st5 rfl
            cases e1
            have hsz : vs'.length < sizeLine := by
              rw [hl, List.length_map]
              exact Nat.lt_of_le_of_lt hacc (Nat.lt_of_lt_of_le hlt (Nat.le_trans hz (by decide)))
            refine ⟨vs', h2, hsz, acc ++ [o], by simp; omega, hf, back ?_⟩
            exact go ((acc ++ [o]).map el) (vs' ++ [yv]) fun G H F1 F2 c q => ⟨F1 ++ F2, fun b hb => hb, fun n => n, by simpa using c.append (Cs.ofNil q)⟩
    · have e : n = xs.length := by omega
      subst e
      rw [List.drop_length] at hf
      cases hf
      exact .inl ⟨gv.stop (_ :: T) (_ :: t) _ _ _ l' hok st, hd H st⟩
/-- [elt for a, b in iter] -/
theorem xct_mapO {Ok : Cl → Prop} {xs : List α} {dv : α → List PyData} {f : α → Option δ} {el : δ → OA} {ys : List δ} {N : Cl} (hm : mapO f xs = some ys) (hx : XI X (.Tuple ts kk tpos) iter ρ ρ1 Ok xs (fun x => aD X.K (.tuple (dv x)))) (eN : setN ρ1 is = N) (hok : Ok N) (hN : ∀ i ∈ is, i < N.length) (hNN : setN N is = N) (hlen : ∀ x, (dv x).length = is.length) (hsD : ∀ x, setN (setD X.K N is (dv x)) is = N)
    (he : ∀ s0 H0 C cl fp x, XEm (blkX X scope s0 H0 C cl fp) elt (setD X.K N is (dv x)) (f x) (fun _ => setD X.K N is (dv x)) el) :
    XCT X ts kk tpos is elt iter [] scope ρ N (aL (ys.map el)) := by
  refine ⟨tYes, wEc X scope elt, fun _ _ _ _ _ => pts_nil, fun s0 H0 C cl fp => ⟨fun pins s σ H Q I h => h s0 H0 C cl fp pins s I⟩, fun E T t σ H l st Q k => ?_⟩
  obtain ⟨hz, hm1⟩ := mapO_eq hm
  refine hx E T t σ H l st _ fun J E' H' lt st' gv => ?_
  intro D hD
  exact lc_coreT (X := X) (E := E) (te := wEc X scope elt) (tt := tYes) (ρ1 := ρ1) (N := N) (el := el) (tb := fun _ => some true) (fe := f) l (compG_map hm1) hz hD st' gv eN.symm hok hN hNN hlen
    (fun x k hk T t σ H l st Q q => by cases hk; exact q H st)
    (fun x y hf T t σ H l st Q q s0 H0 C cl fp => he s0 H0 C cl fp x y hf E' T t σ H l st Q q) hsD
    fun H2 st2 => k _ _ (lt _ _ _ (by
      obtain ⟨G, F, f, v, F1, F2, e1, e2, ⟨_, a⟩, c⟩ := st2
      cases e1
      exact ⟨G, F, f, _, F1, F2, rfl, e2, a, c⟩))
/-- [elt for a, b in iter if c] -/
theorem xct_fltO {Ok : Cl → Prop} {xs : List α} {dv : α → List PyData} {tb : α → Option Bool} {f : α → Option δ} {el : δ → OA} {ys : List δ} {N : Cl} (hm : fltO tb f xs = some ys) (hx : XI X (.Tuple ts kk tpos) iter ρ ρ1 Ok xs (fun x => aD X.K (.tuple (dv x)))) (eN : setN ρ1 is = N) (hok : Ok N) (hN : ∀ i ∈ is, i < N.length) (hNN : setN N is = N) (hlen : ∀ x, (dv x).length = is.length) (hsD : ∀ x, setN (setD X.K N is (dv x)) is = N)
    (ht : ∀ s0 H0 C cl fp x, XTm (blkX X scope s0 H0 C cl fp) c (setD X.K N is (dv x)) (tb x))
    (he : ∀ s0 H0 C cl fp x, XEm (blkX X scope s0 H0 C cl fp) elt (setD X.K N is (dv x)) (f x) (fun _ => setD X.K N is (dv x)) el) :
    XCT X ts kk tpos is elt iter [c] scope ρ N (aL (ys.map el)) := by
  refine ⟨wTc X scope c, wEc X scope elt, fun s0 H0 C cl fp => pts_one ⟨fun pins s σ H Q I h => h s0 H0 C cl fp pins s I⟩, fun s0 H0 C cl fp => ⟨fun pins s σ H Q I h => h s0 H0 C cl fp pins s I⟩, fun E T t σ H l st Q k => ?_⟩
  obtain ⟨hz, hm1⟩ := fltO_eq hm
  refine hx E T t σ H l st _ fun J E' H' lt st' gv => ?_
  intro D hD
  exact lc_coreT (X := X) (E := E) (te := wEc X scope elt) (tt := wTc X scope c) (ρ1 := ρ1) (N := N) (el := el) (tb := tb) (fe := f) l (compG_flt hm1) hz hD st' gv eN.symm hok hN hNN hlen
    (fun x k hk T t σ H l st Q q s0 H0 C cl fp => ht s0 H0 C cl fp x k hk E' T t σ H l st Q q)
    (fun x y hf T t σ H l st Q q s0 H0 C cl fp => he s0 H0 C cl fp x y hf E' T t σ H l st Q q) hsD
    fun H2 st2 => k _ _ (lt _ _ _ (by
      obtain ⟨G, F, f, v, F1, F2, e1, e2, ⟨_, a⟩, c⟩ := st2
      cases e1
      exact ⟨G, F, f, _, F1, F2, rfl, e2, a, c⟩))
end
end Mr

set_option Elab.async false
set_option linter.all false
set_option maxRecDepth 100000
/-! dicts by comprehensions; sorted(xs) of triples of ints -/
namespace Mr
open PySem PySem.Spec PyProof.Rows L2
theorem dPut_len {α : Type} (d : List (Int × α)) (k : Int) (v : α) : (dPut d k v).length ≤ d.length + 1 := by
  unfold dPut
  split
  · rw [List.length_map]; omega
  · simp
section
variable {X : Cx} {ρ ρ1 : Cl} {kx vx iter : Expr} {pos p : Pos} {α β : Type} [Cd β] {scope : Scope} {x : Str}
theorem dc_core1 {Ok : Cl → Prop} {xs : List α} {cv : α → OA} {f : α → Option (Int × β)} {ys : List (Int × β)} {i : Nat} {E E' : Ent} {T : Cl} {t σ : L2.St} {H1 : Hp} {D : Addr} {J : It} {tk tv : TE} {Qd : Hp → Prop}
    (l : T.length = t.length) (hm : mapL f xs = some ys) (hz : xs.length ≤ 1000000) (hD : H1 D = none) (st : ST E' (T ++ ρ1) (t ++ σ) H1) (gv : Gives J E' Ok xs cv) (hok : Ok (ρ1.set i none)) (hi : i < ρ1.length)
    (hk : ∀ x y, f x = some y → ∀ (T : Cl) (t σ : L2.St) (H : Hp), T.length = t.length → ST E' (T ++ ρ1.set i (some (cv x))) (t ++ σ) H → ∀ Q : VK, (∀ v H', ST E' (some (aD X.K (.int y.1)) :: (T ++ ρ1.set i (some (cv x)))) (some v :: (t ++ σ)) H' → Q v H') → tk σ H Q)
    (hv : ∀ x y, f x = some y → ∀ (T : Cl) (t σ : L2.St) (H : Hp), T.length = t.length → ST E' (T ++ ρ1.set i (some (cv x))) (t ++ σ) H → ∀ Q : VK, (∀ v H', ST E' (some (aD X.K (Cd.d y.2)) :: (T ++ ρ1.set i (some (cv x)))) (some v :: (t ++ σ)) H' → Q v H') → tv σ H Q)
    (hd : ∀ H', ST E' (some (pin (.ref D) (aDK X.K (dD (dOf ys)))) :: (T ++ ρ1.set i none)) (some (.ref D) :: (t ++ σ)) H' → Qd H') :
    ∃ W : Nat → Nat → Hp → Prop, (∃ m, W 0 m (upd H1 D (.dK []))) ∧ ∀ n m H, W n m H →
      (J.stop n H ∧ Qd H) ∨ (J.go n H ∧ ∃ Nx : Hp → Prop, (∀ H', Nx H' → ∃ m', m' < m ∧ W (n + 1) m' H') ∧ ∀ x H', J.yld n H x H' → gName i x (wipe σ [i]) H' fun σ2 H2 => wipe σ2 [i] = wipe σ [i] ∧ tYes σ2 H2 fun b H3 =>
        if b = true then tk σ2 H3 fun y H4 => tv σ2 H4 fun z H5 => ∃ kvs k, y = kV k ∧ H5 D = some (.dK kvs) ∧ kvs.length < sizeLine ∧ Nx (upd H5 D (.dK (putK kvs k z))) else Nx H3) := by
  have free : (ρ1.set i none)[i]? = some none := List.getElem?_set_self hi
  refine ⟨fun n m H => m = xs.length - n ∧ n ≤ xs.length ∧ ∃ (acc rest : List (Int × β)), acc.length ≤ n ∧ mapL f (xs.drop n) = some rest ∧ rest.foldl (fun a p => dPut a p.1 p.2) acc = dOf ys ∧ ST E' (some (pin (.ref D) (aDK X.K (dD acc))) :: (T ++ ρ1.set i none)) (some (.ref D) :: (t ++ σ)) H, ⟨xs.length, by simp, Nat.zero_le _, [], ys, Nat.le_refl _, by simpa using hm, rfl, ?_⟩, ?_⟩
  · obtain ⟨G, F, f, c⟩ := ST.rewipe l st (is := [i]) rfl
    obtain ⟨f1, keep⟩ := f.step (Fa := []) (Fr := F) (by simp) (Frm.alloc (o := .dK []) f.gh hD)
    exact ⟨G, [D] ++ F, f1, .ref D, [D], F, rfl, rfl, ⟨rfl, D, [], rfl, rfl, upd_same, .nil⟩, c.mono (.refl _) f1.gh keep⟩
  · rintro n m H ⟨rfl, hn, acc, rest, hacc, hr, hf, st⟩
    have l' : (some (pin (V.ref D) (aDK X.K (dD acc))) :: T).length = (some (V.ref D) :: t).length := by simp [l]
    by_cases hlt : n < xs.length
    · have ed : xs.drop n = xs[n] :: xs.drop (n + 1) := List.drop_eq_getElem_cons hlt
      rw [ed] at hr
      have hr : ((f xs[n]).bind fun y => (mapL f (xs.drop (n + 1))).bind fun ys => some (y :: ys)) = some rest := hr
      cases hfx : f xs[n] with
      | none => rw [hfx] at hr; cases hr
      | some y =>
        rw [hfx] at hr
        cases hrest : mapL f (xs.drop (n + 1)) with
        | none => rw [hrest] at hr; cases hr
        | some rest' =>
          rw [hrest] at hr
          cases hr
          refine .inr ⟨gv.go n hlt (_ :: T) (_ :: t) _ _ _ l' hok st, fun H' => ∃ acc' : List (Int × β), acc'.length ≤ n + 1 ∧ rest'.foldl (fun a p => dPut a p.1 p.2) acc' = dOf ys ∧ ST E' (some (pin (.ref D) (aDK X.K (dD acc'))) :: (T ++ ρ1.set i none)) (some (.ref D) :: (t ++ σ)) H',
            fun H' ⟨acc', q0, q1, q2⟩ => ⟨xs.length - (n + 1), by omega, rfl, hlt, acc', rest', q0, hrest, q1, q2⟩, fun v H' yy => ?_⟩
          have st1 := gv.yld n xs[n] v H H' (List.getElem?_eq_getElem hlt) (_ :: T) (_ :: t) _ _ l' hok st yy
          have st1 : ST E' ((some (cv xs[n]) :: some (pin (.ref D) (aDK X.K (dD acc))) :: T) ++ setN (ρ1.set i none) [i]) ((some v :: some (.ref D) :: t) ++ wipe σ [i]) H' := ST.rewipe (T := some (cv xs[n]) :: some (pin (.ref D) (aDK X.K (dD acc))) :: T) (t := some v :: some (.ref D) :: t) (by simp [l]) st1 (by show σ.set i none = (σ.set i none).set i none; rw [set_set])
          have e0 : setN (ρ1.set i none) [i] = ρ1.set i none := by show (ρ1.set i none).set i none = _; rw [set_set]
          rw [e0] at st1
          have st2 := ST.assignT (T := some (pin (.ref D) (aDK X.K (dD acc))) :: T) (t := some (.ref D) :: t) (i := i) (by simp [l]) st1 (by rw [List.length_set]; exact hi)
          rw [set_set] at st2
          refine ⟨by show ((σ.set i none).set i (some v)).set i none = σ.set i none; rw [set_set, set_set], ?_⟩
          unfold tYes
          dsimp only
          rw [if_pos rfl]
          refine hk xs[n] y hfx (_ :: T) (_ :: t) _ H' l' st2 _ fun kv H2 st3 => ?_
          refine hv xs[n] y hfx (_ :: _ :: T) (_ :: _ :: t) _ H2 (by simp [l]) st3 _ fun vv H3 st4 => ?_
          obtain ⟨G, F, fr, c, q1, q2⟩ := ST.top2 st4
          cases q1
          obtain ⟨p', ws, e1, h1, q3, go⟩ := ST.modD (T := []) (t := []) (ρ := some (pin (.ref D) (aDK X.K (dD acc))) :: (T ++ ρ1.set i (some (cv xs[n])))) rfl fr c (Own.slot 0 rfl)
          cases e1
          have hl : ws.length < sizeLine := by
            rw [q3.len, List.length_map]
            exact Nat.lt_of_le_of_lt hacc (Nat.lt_of_lt_of_le hlt (Nat.le_trans hz (by decide)))
          refine ⟨ws, Sum.inl y.1, rfl, h1, hl, dPut acc y.1 y.2, by have := dPut_len acc y.1 y.2; omega, hf, ?_⟩
          have st5 := go _ _ (q3.put (k := y.1) q2)
          rw [dPut_d] at st5
          have st6 := ST.rewipe (T := some (pin (.ref D) (aDK X.K (dD (dPut acc y.1 y.2)))) :: T) (t := some (.ref D) :: t) (ρ := ρ1.set i (some (cv xs[n]))) (σ := (wipe σ [i]).set i (some v)) (σ' := σ) (is := [i]) (by simp [l]) st5 (by show ((σ.set i none).set i (some v)).set i none = σ.set i none; rw [set_set, set_set])
          have e1 : setN (ρ1.set i (some (cv xs[n]))) [i] = ρ1.set i none := by show (ρ1.set i _).set i none = _; rw [set_set]
          rw [e1] at st6
          exact st6
    · have e : n = xs.length := by omega
      subst e
      rw [List.drop_length] at hr
      cases hr
      have hf : acc = dOf ys := hf
      subst hf
      exact .inl ⟨gv.stop (_ :: T) (_ :: t) _ _ _ l' hok st, hd H st⟩
/-- as XC, of a dict -/
def XDC (X : Cx) (x : Str) (p : Pos) (i : Nat) (kx vx iter : Expr) (scope : Scope) (ρ ρ' : Cl) (A : OA) : Prop := ∃ (tk tv : TE), (∀ s0 H0 C cl fp, PE (blkX X scope s0 H0 C cl fp) kx tk) ∧ (∀ s0 H0 C cl fp, PE (blkX X scope s0 H0 C cl fp) vx tv) ∧
  ∀ (E : Ent) (T : Cl) (t σ : L2.St) (H : Hp), T.length = t.length → ST E (T ++ ρ) (t ++ σ) H → ∀ Q : VK, (∀ v H', ST E (some A :: (T ++ ρ')) (some v :: (t ++ σ)) H' → Q v H') → tDc (wI X (.Name x p) iter) (gName i) tYes tk tv [i] σ H Q
/-- {k: v for x in iter} -/
theorem xdc_mapO {i : Nat} {Ok : Cl → Prop} {xs : List α} {cv : α → OA} {f : α → Option (Int × β)} {ys : List (Int × β)} (hm : mapO f xs = some ys) (hx : XI X (.Name x p) iter ρ ρ1 Ok xs cv) (hok : Ok (ρ1.set i none)) (hl : i < ρ1.length)
    (hk : ∀ s0 H0 C cl fp x y, f x = some y → XE (blkX X scope s0 H0 C cl fp) kx (ρ1.set i (some (cv x))) (ρ1.set i (some (cv x))) (aD X.K (.int y.1)))
    (hv : ∀ s0 H0 C cl fp x y, f x = some y → XE (blkX X scope s0 H0 C cl fp) vx (ρ1.set i (some (cv x))) (ρ1.set i (some (cv x))) (aD X.K (Cd.d y.2))) :
    XDC X x p i kx vx iter scope ρ (ρ1.set i none) (aDK X.K (dD (dOf ys))) := by
  refine ⟨wEc X scope kx, wEc X scope vx, fun s0 H0 C cl fp => ⟨fun pins s σ H Q I h => h s0 H0 C cl fp pins s I⟩, fun s0 H0 C cl fp => ⟨fun pins s σ H Q I h => h s0 H0 C cl fp pins s I⟩, fun E T t σ H l st Q k => ?_⟩
  obtain ⟨hz, hm1⟩ := mapO_eq hm
  refine hx E T t σ H l st _ fun J E' H' lt st' gv => ?_
  intro D hD
  exact dc_core1 (X := X) (E := E) (tk := wEc X scope kx) (tv := wEc X scope vx) (i := i) (ρ1 := ρ1) l hm1 hz hD st' gv hok hl
    (fun x y hf T t σ H l st Q q s0 H0 C cl fp => hk s0 H0 C cl fp x y hf E' T t σ H l st Q q)
    (fun x y hf T t σ H l st Q q s0 H0 C cl fp => hv s0 H0 C cl fp x y hf E' T t σ H l st Q q)
    fun H2 st2 => k _ _ (lt _ _ _ (by
      obtain ⟨G, F, f, v, F1, F2, e1, e2, ⟨_, a⟩, c⟩ := st2
      cases e1
      exact ⟨G, F, f, _, F1, F2, rfl, e2, a, c⟩))
theorem xe_dc {i : Nat} {ρ' : Cl} {A : OA} (h : XDC X x p i kx vx iter scope ρ ρ' A) (hc : X.calm = true) (hN : X.N.Nodup) (ok : BlkOk X.N X.env.scope scope [(x, i)]) (hg : ∀ s0 H0 C cl fp, PG (blkX X scope s0 H0 C cl fp) (.Name x p) (gName i)) (hs : ∀ x, foldedSetIterable iter X.env x = pure x := by intro _; rfl) :
    XE X (.DictComp kx vx [⟨.Name x p, iter, [], 0⟩] scope pos) ρ ρ' A := fun E T t σ H l st Q k => by
  obtain ⟨tk, tv, h1, h2, h3⟩ := h
  exact wE.of (pe_dc (own := [(x, i)]) (g := gName i) (tt := tYes) hc hN piS ok hg (fun _ _ _ _ _ => pts_nil) h1 h2 hs) (h3 E T t σ H l st Q k)
theorem ps_setDc {X : Cx} {i : Nat} {y : Str} {py : Pos} {kx vx tg iter : Expr} {ifs : List Expr} {scope : Scope} {own : List (Str × Nat)} {pos spos : Pos} {wi : TI} {g : TG} {tt : TT} {tk tv : TE} (hc : X.calm = true) (hN : X.N.Nodup) (hy : X.N[i]? = some y) (hyl : X.env.scope.names.lookup y = some .local)
    (hsw : swapsWith (.DictComp kx vx [⟨tg, iter, ifs, 0⟩] scope pos) (some (.Name y py)) spos.line X.env = pure true) (hi : PI X tg iter wi) (ok : BlkOk X.N X.env.scope scope own)
    (hg : ∀ (s : Shared) (H : Hp) (C : Addr) (cl : List (Str × Addr)) (fp : List Addr), PG (X.blk s H scope (compEnvC scope cl C X.env) fp) tg g) (ht : ∀ (s : Shared) (H : Hp) (C : Addr) (cl : List (Str × Addr)) (fp : List Addr), PTs (X.blk s H scope (compEnvC scope cl C X.env) fp) ifs tt)
    (hk : ∀ (s : Shared) (H : Hp) (C : Addr) (cl : List (Str × Addr)) (fp : List Addr), PE (X.blk s H scope (compEnvC scope cl C X.env) fp) kx tk)
    (he : ∀ (s : Shared) (H : Hp) (C : Addr) (cl : List (Str × Addr)) (fp : List Addr), PE (X.blk s H scope (compEnvC scope cl C X.env) fp) vx tv) (hs : ∀ x, foldedSetIterable iter X.env x = pure x := by intro _; rfl) :
    PS X (.Assign [.Name y py] (.DictComp kx vx [⟨tg, iter, ifs, 0⟩] scope pos) spos) (tAsg (tDc wi g tt tk tv (own.map (·.2))) (gName i)) := by
  refine ⟨fun pins s σ H D I h => ?_⟩
  rw [exec_Assign_Name_used _ _ _ _ hsw]
  refine wpAny_bind (wpAny_standAt (wpAny_bind ?_))
  show wpAny _ X.A (do let _ ← comprehension (.DictComp kx vx [⟨tg, iter, ifs, 0⟩] scope pos) scope X.env (firstIterPos [⟨tg, iter, ifs, 0⟩] pos) newDict false (eval iter X.env) (some (assign (.Name y py) X.env))) _ _ s
  have h : tDc wi g tt tk tv (own.map (·.2)) σ H (fun x H1 => gName i x σ H1 D.nx) := h
  refine wpAny_bind (thn (dc_core (Qf := fun _ s' => SP X pins D .next s') hc hN I hi ok hg ht hk he hs h fun L C s' m H' I' q hn f => ?_) fun _ s' hq => wpAny_pure (wpAny_pure hq))
  show wpAny _ _ (assign (.Name y py) X.env (.ref L)) _ _ _
  refine wpAny_assign_Name (store_ok2 (v := V.ref L) I' hN hy (.inl hyl) rfl (fun s2 I2 ⟨a, sb, ha⟩ => ?_) (.inr hyl))
  obtain ⟨f0, f1, f2, f3, f4, f5⟩ := f
  have haC : C ≠ a := by
    rcases ha with z | z
    · rw [z]; exact f1
    · exact fun e => f4 y a z e.symm
  refine ⟨m, hn.sameBut sb haC, fun h3 sb3 => ?_⟩
  exact ⟨_, H', I2.turned (t' := s2.toks) (fun b o hb e => (sb3.2 b hb).trans e) f0 f1 f3 f4 f5, q⟩
theorem swD_true {kx vx : Expr} {gs : List Comprehension} {scope : Scope} {pos py : Pos} {y : Str} {l : Nat} {env : Env} (hk : env.scope.kind = .function) (hy : env.scope.names.lookup y = some .local) (hl : (py.line == pos.line) = true)
    (ha : (scope.names.any fun (n, k) => n == y && (k == .local || k == .cell)) = false) : swapsWith (.DictComp kx vx gs scope pos) (some (.Name y py)) l env = pure true := by
  have ky : env.kindOf y = some .local := hy
  have hb : env.blockKind = .function := by unfold Env.blockKind; rw [hk]; rfl
  unfold swapsWith
  simp only [hb, ky, ha, Expr.pos, hl]
  rfl
/-- y = {..} on one line -/
theorem xg_asgDcP {i j : Nat} {ρ' : Cl} {A : OA} {y : Str} {py spos : Pos} {ω : Type} {rest : List Stmt} {m : Option ω} {Φ : ω → Ent → Ends → Prop} (h : XDC X x p i kx vx iter scope ρ ρ' A) (hy : X.N[j]? = some y) (hyl : X.env.scope.names.lookup y = some .local)
    (hsw : swapsWith (.DictComp kx vx [⟨.Name x p, iter, [], 0⟩] scope pos) (some (.Name y py)) spos.line X.env = pure true) (k : ∀ v, XG X rest (ρ'.set j (some (pin v A))) m Φ) (hl : j < ρ'.length) (hc : X.calm = true) (hN : X.N.Nodup) (ok : BlkOk X.N X.env.scope scope [(x, i)]) (hg : ∀ s0 H0 C cl fp, PG (blkX X scope s0 H0 C cl fp) (.Name x p) (gName i)) (hs : ∀ x, foldedSetIterable iter X.env x = pure x := by intro _; rfl) :
    XG X (.Assign [.Name y py] (.DictComp kx vx [⟨.Name x p, iter, [], 0⟩] scope pos) spos :: rest) ρ m Φ := fun o ho E σ H D st q => by
  obtain ⟨tk, tv, h1, h2, h3⟩ := h
  have k' : XG X rest (ρ'.set j (some A)) m Φ := xg_pin j (List.getElem?_set_self hl) fun v => by rw [set_set]; exact k v
  exact wS.of (pss_cons (ps_setDc (own := [(x, i)]) (g := gName i) (tt := tYes) hc hN hy hyl hsw piS ok hg (fun _ _ _ _ _ => pts_nil) h1 h2 hs) pssS) (h3 E [] [] σ H rfl st _ fun v H' st1 => k' o ho E _ H' D (ST.assign st1 hl) q)
end
section
variable {X : Cx} {ρ ρ' : Cl} {elt iter : Expr} {ts : List Expr} {kk : Nat} {tpos : Pos} {ifs : List Expr} {scope : Scope} {pos : Pos}
/-- y = [.. for a, b in ..] on one line -/
theorem xg_asgLcT {j : Nat} {A : OA} {own : List (Str × Nat)} {y : Str} {py spos : Pos} {ω : Type} {rest : List Stmt} {m : Option ω} {Φ : ω → Ent → Ends → Prop} (h : XCT X ts kk tpos (own.map (·.2)) elt iter ifs scope ρ ρ' A) (hy : X.N[j]? = some y) (hyl : X.env.scope.names.lookup y = some .local)
    (hsw : swapsWith (.ListComp elt [⟨.Tuple ts kk tpos, iter, ifs, 0⟩] scope pos) (some (.Name y py)) spos.line X.env = pure true) (k : XG X rest (ρ'.set j (some A)) m Φ) (hl : j < ρ'.length) (hc : X.calm = true) (hN : X.N.Nodup) (ok : BlkOk X.N X.env.scope scope own) (hg : ∀ s0 H0 C cl fp, PGs (blkX X scope s0 H0 C cl fp) ts (gNms (own.map (·.2))))
    (hn : ∀ s0 H0 C cl fp, (assignEach ts (blkX X scope s0 H0 C cl fp).env).length = (own.map (·.2)).length := by intros; rfl) (hst : ∀ s0 H0 C cl fp, (assignEach ts (blkX X scope s0 H0 C cl fp).env).findIdx? (·.1) = none := by intros; rfl) (hs : ∀ x, foldedSetIterable iter X.env x = pure x := by intro _; rfl) :
    XG X (.Assign [.Name y py] (.ListComp elt [⟨.Tuple ts kk tpos, iter, ifs, 0⟩] scope pos) spos :: rest) ρ m Φ := fun o ho E σ H D st q => by
  obtain ⟨tt, te, h1, h2, h3⟩ := h
  exact wS.of (pss_cons (ps_setLc (own := own) hc hN hy hyl hsw piS ok (fun s H C cl fp => pg_tup (X := blkX X scope s H C cl fp) hc (hg s H C cl fp) (hn s H C cl fp) (hst s H C cl fp)) h1 h2 hs) pssS) (h3 E [] [] σ H rfl st _ fun v H' st1 => k o ho E _ H' D (ST.assign st1 hl) q)
theorem xg_asgLcTP {j : Nat} {A : OA} {own : List (Str × Nat)} {y : Str} {py spos : Pos} {ω : Type} {rest : List Stmt} {m : Option ω} {Φ : ω → Ent → Ends → Prop} (h : XCT X ts kk tpos (own.map (·.2)) elt iter ifs scope ρ ρ' A) (hy : X.N[j]? = some y) (hyl : X.env.scope.names.lookup y = some .local)
    (hsw : swapsWith (.ListComp elt [⟨.Tuple ts kk tpos, iter, ifs, 0⟩] scope pos) (some (.Name y py)) spos.line X.env = pure true) (k : ∀ v, XG X rest (ρ'.set j (some (pin v A))) m Φ) (hl : j < ρ'.length) (hc : X.calm = true) (hN : X.N.Nodup) (ok : BlkOk X.N X.env.scope scope own) (hg : ∀ s0 H0 C cl fp, PGs (blkX X scope s0 H0 C cl fp) ts (gNms (own.map (·.2))))
    (hn : ∀ s0 H0 C cl fp, (assignEach ts (blkX X scope s0 H0 C cl fp).env).length = (own.map (·.2)).length := by intros; rfl) (hst : ∀ s0 H0 C cl fp, (assignEach ts (blkX X scope s0 H0 C cl fp).env).findIdx? (·.1) = none := by intros; rfl) (hs : ∀ x, foldedSetIterable iter X.env x = pure x := by intro _; rfl) :
    XG X (.Assign [.Name y py] (.ListComp elt [⟨.Tuple ts kk tpos, iter, ifs, 0⟩] scope pos) spos :: rest) ρ m Φ :=
  xg_asgLcT h hy hyl hsw (xg_pin j (List.getElem?_set_self hl) fun v => by rw [set_set]; exact k v) hl hc hN ok hg hn hst hs
theorem xct_frz {is : List Nat} {ds : List PyData} (h : XCT X ts kk tpos is elt iter ifs scope ρ ρ' (aLD X.K ds)) : XCT X ts kk tpos is elt iter ifs scope ρ ρ' (aD X.K (.list ds)) := by
  obtain ⟨tt, te, h1, h2, h3⟩ := h
  refine ⟨tt, te, h1, h2, fun E T t σ H l st Q k => h3 E T t σ H l st Q fun v H' st1 => ?_⟩
  obtain ⟨G, F, f, w, F1, F2, e1, e2, ⟨p, vs, F', e3, e4, h1, c1⟩, cs⟩ := st1
  obtain ⟨q1, q2⟩ := csD c1
  cases e1
  subst e2 e3 e4 q2
  have g : G p = none := f.dis p (by simp)
  obtain ⟨f1, st⟩ := f.step (Fa := [p]) (Fr := F2) (by simp) (Frm.freeze f.gh g h1)
  exact k _ _ ⟨_, _, f1, .ref p, [], F2, rfl, rfl, ⟨.lst upd_same (DqAll.mono (.new g) _ _ q1), rfl⟩, by simpa using cs.mono (.new g) f1.gh st⟩
end
theorem xct_imp {X : Cx} {ρ ρ' : Cl} {elt iter : Expr} {ts : List Expr} {kk : Nat} {tpos : Pos} {is : List Nat} {ifs : List Expr} {scope : Scope} {A B : OA} (h : XCT X ts kk tpos is elt iter ifs scope ρ ρ' A) (e : A = B) : XCT X ts kk tpos is elt iter ifs scope ρ ρ' B := e ▸ h
/-! sorted(xs) of triples -/
abbrev I3 := T3 Int Int Int
def le3 (x y : I3) : Prop := x.a < y.a ∨ (x.a = y.a ∧ (x.b < y.b ∨ (x.b = y.b ∧ x.c ≤ y.c)))
instance (x y : I3) : Decidable (le3 x y) := by unfold le3; exact inferInstance
def ins3 (x : I3) : List I3 → List I3
  | [] => [x]
  | y :: ys => if le3 x y then x :: y :: ys else y :: ins3 x ys
def srt3 : List I3 → List I3
  | [] => []
  | x :: xs => ins3 x (srt3 xs)
theorem le3_total (x y : I3) (h : ¬ le3 x y) : le3 y x := by unfold le3 at *; omega
theorem le3_trans {x y z : I3} (h : le3 x y) (k : le3 y z) : le3 x z := by unfold le3 at *; omega
theorem le3_anti {x y : I3} (h : le3 x y) (k : le3 y x) : x = y := by
  obtain ⟨a, b, c⟩ := x
  obtain ⟨a', b', c'⟩ := y
  unfold le3 at *
  dsimp only at *
  have e1 : a = a' := by omega
  have e2 : b = b' := by omega
  have e3 : c = c' := by omega
  rw [e1, e2, e3]
theorem ins3_perm (x : I3) : ∀ ys : List I3, (ins3 x ys).Perm (x :: ys)
  | [] => .refl _
  | y :: ys => by
    unfold ins3
    by_cases h : le3 x y
    · rw [if_pos h]
    · rw [if_neg h]
      exact ((ins3_perm x ys).cons y).trans (List.Perm.swap x y ys)
theorem srt3_perm : ∀ xs : List I3, (srt3 xs).Perm xs
  | [] => .refl _
  | x :: xs => (ins3_perm x (srt3 xs)).trans ((srt3_perm xs).cons x)
theorem ins3_sorted (x : I3) : ∀ ys : List I3, ys.Pairwise le3 → (ins3 x ys).Pairwise le3
  | [], _ => by simp [ins3]
  | y :: ys, h => by
    obtain ⟨h1, h2⟩ := List.pairwise_cons.mp h
    unfold ins3
    by_cases q : le3 x y
    · rw [if_pos q]
      refine List.pairwise_cons.mpr ⟨fun z hz => ?_, h⟩
      rcases List.mem_cons.mp hz with e | e
      · exact e ▸ q
      · exact le3_trans q (h1 z e)
    · rw [if_neg q]
      refine List.pairwise_cons.mpr ⟨fun z hz => ?_, ins3_sorted x ys h2⟩
      rcases List.mem_cons.mp ((ins3_perm x ys).mem_iff.mp hz) with e | e
      · exact e ▸ le3_total x y q
      · exact h1 z e
theorem srt3_sorted : ∀ xs : List I3, (srt3 xs).Pairwise le3
  | [] => .nil
  | x :: xs => ins3_sorted x _ (srt3_sorted xs)
theorem sorted3_unique : ∀ {xs ys : List I3}, xs.Perm ys → xs.Pairwise le3 → ys.Pairwise le3 → xs = ys
  | [], ys, p, _, _ => List.Perm.nil_eq p
  | x :: xs, [], p, _, _ => by have := p.length_eq; simp at this
  | x :: xs, y :: ys, p, hx, hy => by
    obtain ⟨h1, h2⟩ := List.pairwise_cons.mp hx
    obtain ⟨h3, h4⟩ := List.pairwise_cons.mp hy
    have lr : ∀ z, le3 z z := fun z => by unfold le3; omega
    have e : x = y := by
      have a : x ∈ y :: ys := p.mem_iff.mp (by simp)
      have b : y ∈ x :: xs := p.mem_iff.mpr (by simp)
      refine le3_anti ?_ ?_
      · rcases List.mem_cons.mp b with e | e
        · exact e ▸ lr _
        · exact h1 y e
      · rcases List.mem_cons.mp a with e | e
        · exact e ▸ lr _
        · exact h3 x e
    subst e
    rw [sorted3_unique (List.Perm.cons_inv p) h2 h4]
def Ok3 (xs : List I3) : Prop := xs.length < 64 ∧ ∀ x ∈ xs, (0 ≤ x.a ∧ x.a < 2 ^ 62) ∧ (0 ≤ x.b ∧ x.b < 2 ^ 62) ∧ (0 ≤ x.c ∧ x.c < 2 ^ 62)
instance (xs : List I3) : Decidable (Ok3 xs) := by unfold Ok3; exact inferInstance
theorem dq_perm {K : PySem.W.Frag} {G : Hp} {α : Type} [Cd α] : ∀ {ys xs : List V}, ys.Perm xs → ∀ {ts : List α}, DqAll K G xs (ts.map Cd.d) → ∃ us : List α, us.Perm ts ∧ DqAll K G ys (us.map Cd.d) := fun {ys xs} p => by
  induction p with
  | nil => intro ts h; exact ⟨ts, .refl _, h⟩
  | cons x _ ih =>
    intro ts h
    cases ts with
    | nil => cases h
    | cons t ts =>
      cases h with
      | cons h1 h2 =>
        obtain ⟨us, e1, e2⟩ := ih h2
        exact ⟨t :: us, e1.cons t, .cons h1 e2⟩
  | swap x y l =>
    intro ts h
    match ts, h with
    | [], h => cases h
    | [_], h => cases h with | cons h1 h2 => cases h2
    | t :: u :: ts, h =>
      cases h with
      | cons h1 h2 =>
        cases h2 with
        | cons h3 h4 => exact ⟨u :: t :: ts, List.Perm.swap t u ts, .cons h3 (.cons h1 h4)⟩
  | trans _ _ ih1 ih2 =>
    intro ts h
    obtain ⟨us, e1, e2⟩ := ih2 h
    obtain ⟨ws, e3, e4⟩ := ih1 e2
    exact ⟨ws, e3.trans e1, e4⟩
theorem dq3 {K : PySem.W.Frag} {G H : Hp} (ex : Ex G H) {v : V} {t : I3} (h : Dq K G v (Cd.d t)) : TupI K H v [t.a, t.b, t.c] := by
  have h : Dq K G v (PyData.tuple [PyData.int t.a, PyData.int t.b, PyData.int t.c]) := h
  cases h with
  | tup a1 a2 =>
    rename_i a xs
    refine ⟨a, rfl, ?_⟩
    have e : xs = [t.a, t.b, t.c].map V.int := dq_vints (xs := [t.a, t.b, t.c]) a2
    rw [← e]
    exact ex.st a1
theorem dq_pw {K : PySem.W.Frag} {G H : Hp} (ex : Ex G H) {R : List Int → List Int → Prop} : ∀ {ys : List V} {us : List I3}, DqAll K G ys (us.map Cd.d) → ys.Pairwise (fun x y => ∀ n m, TupI K H x n → TupI K H y m → R n m) → us.Pairwise (fun x y => R [x.a, x.b, x.c] [y.a, y.b, y.c])
  | _, [], _, _ => .nil
  | _, u :: us, h, p => by
    cases h with
    | cons h1 h2 =>
      obtain ⟨p1, p2⟩ := List.pairwise_cons.mp p
      refine List.pairwise_cons.mpr ⟨fun w hw => ?_, dq_pw ex h2 p2⟩
      obtain ⟨i, hi⟩ := List.mem_iff_getElem?.mp hw
      obtain ⟨y, e1, e2⟩ := h2.get (i := i) (d := Cd.d w) (by rw [List.getElem?_map, hi]; rfl)
      exact p1 y (List.mem_of_getElem? e1) _ _ (dq3 ex h1) (dq3 ex e2)
theorem code_le3 {x y : I3} (h1 : (0 ≤ x.a ∧ x.a < 2 ^ 62) ∧ (0 ≤ x.b ∧ x.b < 2 ^ 62) ∧ (0 ≤ x.c ∧ x.c < 2 ^ 62)) (h2 : (0 ≤ y.a ∧ y.a < 2 ^ 62) ∧ (0 ≤ y.b ∧ y.b < 2 ^ 62) ∧ (0 ≤ y.c ∧ y.c < 2 ^ 62)) (h : TS.code (2 ^ 62) [x.a, x.b, x.c] ≤ TS.code (2 ^ 62) [y.a, y.b, y.c]) : le3 x y := by
  have bd : ∀ {z : I3}, ((0 ≤ z.a ∧ z.a < 2 ^ 62) ∧ (0 ≤ z.b ∧ z.b < 2 ^ 62) ∧ (0 ≤ z.c ∧ z.c < 2 ^ 62)) → TS.Bd (2 ^ 62) [z.a, z.b, z.c] := fun {z} q m hm => by
    simp at hm
    rcases hm with e | e | e <;> subst e <;> omega
  by_cases q : le3 x y
  · exact q
  · exfalso
    have k := le3_total x y q
    have b1 := bd h1
    have b2 := bd h2
    have key : TS.code (2 ^ 62) [y.a, y.b, y.c] < TS.code (2 ^ 62) [x.a, x.b, x.c] := by
      rcases k with k | ⟨e1, k⟩
      · exact TS.code_lt rfl b2.tail b1.tail k
      · rw [e1]
        refine (TS.code_same (r := [y.b, y.c]) (q := [x.b, x.c]) rfl).mpr ?_
        rcases k with k | ⟨e2, k⟩
        · exact TS.code_lt rfl b2.tail.tail b1.tail.tail k
        · rw [e2]
          refine (TS.code_same (r := [y.c]) (q := [x.c]) rfl).mpr ?_
          have hne : y.c < x.c := by
            rcases Int.lt_or_eq_of_le k with z | z
            · exact z
            · exact absurd (by unfold le3; omega) q
          exact TS.code_lt rfl b2.tail.tail.tail b1.tail.tail.tail hne
    omega
section
variable {X : Cx} {ρ ρ1 : Cl} {a : Expr} {p pos : Pos} {A : OA}
theorem xe_sorted3 {xs : List I3} (ok : Ok3 xs) (ha : XE X a ρ ρ1 A) (r : Rls X.K ρ1 A (xs.map Cd.d)) (hm : X.mg "sorted" = none) (hg : Gl X "sorted" := by rfl) (hs : starEach [a] X.env = [(false, eval a X.env)] := by rfl) (hpl : (backTo pos (starEach [] X.env)).any (·.1) = false := by rfl) : XE X (.Call (.Name "sorted" p) [a] [] pos) ρ ρ1 (aLD X.K ((srt3 xs).map Cd.d)) :=
  xe_callB (cr_sortT (d := 3) (B := 2 ^ 62) (by decide)) (xa_cons ha xa_nil hs) (fun E T t σ vs H Q l hl st k => by
    obtain ⟨v, rfl⟩ := vs1 hl
    obtain ⟨G, F, Fv, f, c, q⟩ := ST.one st
    obtain ⟨p1, ys, e1, e2, e3⟩ := r l c f.gh q
    subst e1
    refine ⟨p1, ys, rfl, e2, by rw [e3.len, List.length_map]; exact ok.1, fun x hx => ?_, fun zs p' hp hpw hn => ?_⟩
    · obtain ⟨i, hi⟩ := List.mem_iff_getElem?.mp hx
      have hlt : i < xs.length := by have := lt_of_get hi; rw [e3.len, List.length_map] at this; exact this
      obtain ⟨w, e4, e5⟩ := e3.get (i := i) (d := Cd.d xs[i]) (by rw [List.getElem?_map, List.getElem?_eq_getElem hlt]; rfl)
      rw [hi] at e4
      cases e4
      obtain ⟨b1, b2, b3⟩ := ok.2 xs[i] (List.getElem_mem hlt)
      refine ⟨_, dq3 f.gh e5, rfl, fun m hm => ?_⟩
      simp at hm
      rcases hm with e | e | e <;> subst e <;> omega
    · obtain ⟨us, pu, du⟩ := dq_perm hp e3
      have pw := dq_pw (R := fun n m => TS.code (2 ^ 62) n ≤ TS.code (2 ^ 62) m) f.gh du hpw
      have pw3 : us.Pairwise le3 := List.Pairwise.imp_of_mem (fun {x y} hx hy h => code_le3 (ok.2 x (pu.mem_iff.mp hx)) (ok.2 y (pu.mem_iff.mp hy)) h) pw
      have e := sorted3_unique (pu.trans (srt3_perm xs).symm) pw3 (srt3_sorted xs)
      subst e
      exact k _ _ (ST.newL f c hn du)) hm (by decide +kernel) hg (by decide) (by decide) hs hpl
end
end Mr

set_option Elab.async false
set_option linter.all false
set_option maxRecDepth 100000
/-! mathematics of mirrors: plain Lean -/
namespace Mr
open PySem PySem.Spec PyProof.Rows L2
section
variable {α β γ δ : Type}
theorem bsome (a : α) (f : α → Option β) : Option.bind (some a) f = f a := rfl
theorem lett_eq {α β : Type} (v : α) (k : α → β) : lett v k = k v := rfl
theorem foldB_unit {f : Unit → α → Option (γ ⊕ Unit)} : ∀ {xs : List α}, (∀ x, x ∈ xs → f () x = some (.inr ())) → foldB f xs () = some (.inr ())
  | [], _ => rfl
  | x :: xs, h => by
    show thenR (f () x) (foldB f xs) Sum.inl = _
    rw [h x (by simp)]
    exact foldB_unit fun y hy => h y (by simp [hy])
/-- a loop by what holds between its turns -/
theorem foldB_inv {f : β → α → Option (γ ⊕ β)} (I : β → Prop) : ∀ {xs : List α} {s : β}, I s → (∀ x s, x ∈ xs → I s → ∃ s', f s x = some (.inr s') ∧ I s') → ∃ s', foldB f xs s = some (.inr s') ∧ I s'
  | [], s, h, _ => ⟨s, rfl, h⟩
  | x :: xs, s, h, k => by
    obtain ⟨s1, e1, h1⟩ := k x s (by simp) h
    obtain ⟨s2, e2, h2⟩ := foldB_inv I (xs := xs) h1 fun y s hy hs => k y s (by simp [hy]) hs
    refine ⟨s2, ?_, h2⟩
    show thenR (f s x) (foldB f xs) Sum.inl = _
    rw [e1]
    exact e2
theorem foldM_inv {f : β → α → Option β} (I : β → Prop) : ∀ {xs : List α} {s : β}, I s → (∀ x s, x ∈ xs → I s → ∃ s', f s x = some s' ∧ I s') → ∃ s', List.foldlM f s xs = some s' ∧ I s'
  | [], s, h, _ => ⟨s, rfl, h⟩
  | x :: xs, s, h, k => by
    obtain ⟨s1, e1, h1⟩ := k x s (by simp) h
    obtain ⟨s2, e2, h2⟩ := foldM_inv I (xs := xs) h1 fun y s hy hs => k y s (by simp [hy]) hs
    refine ⟨s2, ?_, h2⟩
    rw [List.foldlM_cons, e1]
    exact e2
/-- with the number of turns that are behind -/
theorem foldM_idx {f : β → α → Option β} (I : Nat → β → Prop) : ∀ {xs : List α} {n : Nat} {s : β}, I n s → (∀ (i : Nat) x s, xs[i]? = some x → I (n + i) s → ∃ s', f s x = some s' ∧ I (n + i + 1) s') → ∃ s', List.foldlM f s xs = some s' ∧ I (n + xs.length) s'
  | [], n, s, h, _ => ⟨s, rfl, h⟩
  | x :: xs, n, s, h, k => by
    obtain ⟨s1, e1, h1⟩ := k 0 x s rfl h
    obtain ⟨s2, e2, h2⟩ := foldM_idx I (xs := xs) (n := n + 1) h1 fun i y s hy hs => by
      have e : n + 1 + i = n + (i + 1) := by omega
      rw [e] at hs ⊢
      exact k (i + 1) y s hy hs
    refine ⟨s2, ?_, ?_⟩
    · rw [List.foldlM_cons, e1]
      exact e2
    · have e : n + (x :: xs).length = n + 1 + xs.length := by simp; omega
      rw [e]; exact h2
theorem foldB_idx {f : β → α → Option (γ ⊕ β)} (I : Nat → β → Prop) : ∀ {xs : List α} {n : Nat} {s : β}, I n s → (∀ (i : Nat) x s, xs[i]? = some x → I (n + i) s → ∃ s', f s x = some (.inr s') ∧ I (n + i + 1) s') → ∃ s', foldB f xs s = some (.inr s') ∧ I (n + xs.length) s'
  | [], n, s, h, _ => ⟨s, rfl, h⟩
  | x :: xs, n, s, h, k => by
    obtain ⟨s1, e1, h1⟩ := k 0 x s rfl h
    obtain ⟨s2, e2, h2⟩ := foldB_idx I (xs := xs) (n := n + 1) h1 fun i y s hy hs => by
      have e : n + 1 + i = n + (i + 1) := by omega
      rw [e] at hs ⊢
      exact k (i + 1) y s hy hs
    refine ⟨s2, ?_, ?_⟩
    · show thenR (f s x) (foldB f xs) Sum.inl = _
      rw [e1]
      exact e2
    · have e : n + (x :: xs).length = n + 1 + xs.length := by simp; omega
      rw [e]; exact h2
theorem thenR_r {m : Option (γ ⊕ β)} {k : β → Option δ} {f : γ → δ} {s : β} (h : m = some (.inr s)) : thenR m k f = k s := by rw [h]; rfl
theorem thenR_l {m : Option (γ ⊕ β)} {k : β → Option δ} {f : γ → δ} {r : γ} (h : m = some (.inl r)) : thenR m k f = some (f r) := by rw [h]; rfl
theorem mem_rangeI {lo : Int} {n : Nat} {x : Int} : x ∈ rangeI lo n ↔ lo ≤ x ∧ x < lo + n := by
  unfold rangeI
  rw [List.mem_map]
  constructor
  · rintro ⟨i, hi, rfl⟩
    have := List.mem_range.mp hi
    omega
  · intro h
    exact ⟨(x - lo).toNat, List.mem_range.mpr (by omega), by omega⟩
theorem rangeI_at {lo : Int} {n i : Nat} (h : i < n) : (rangeI lo n)[i]? = some (lo + i) := by
  unfold rangeI
  rw [List.getElem?_map, List.getElem?_range h]
  rfl
theorem mulM_some {i j : Int} (h : MulOk i j) : mulM i j = some (i * j) := by unfold mulM; rw [if_pos h]
theorem divM_some {i j : Int} (h : DivOk j) : divM i j = some (i / j) := by unfold divM; rw [if_pos h]
theorem modM_some {i j : Int} (h : 0 < j) : modM i j = some (i % j) := by unfold modM; rw [if_pos h]
theorem guardO_some {p : Prop} [Decidable p] (h : p) : guardO p = some () := by unfold guardO; rw [if_pos h]
theorem atI_nn {xs : List α} {i : Int} (h : 0 ≤ i) : atI xs i = xs[i.toNat]? := by
  unfold atI ixN
  rw [if_pos h]
  by_cases hl : i < xs.length
  · rw [if_pos hl]; rfl
  · rw [if_neg hl, List.getElem?_eq_none (by omega)]; rfl
theorem atI_at {xs : List α} {n : Nat} : atI xs (n : Int) = xs[n]? := by
  rw [atI_nn (by omega)]
  rfl
theorem ixN_nn {n : Nat} {i : Int} (h : 0 ≤ i) (h2 : i < n) : ixN n i = some i.toNat := by
  unfold ixN
  rw [if_pos h, if_pos h2]
theorem atI_lt {xs : List α} {i : Int} (h : 0 ≤ i) (h2 : i < xs.length) : ∃ x, atI xs i = some x ∧ x ∈ xs := by
  rw [atI_nn h]
  have hl : i.toNat < xs.length := by omega
  exact ⟨xs[i.toNat], List.getElem?_eq_getElem hl, List.getElem_mem hl⟩
/-- lists, item by item -/
inductive F2 (R : α → β → Prop) : List α → List β → Prop
  | nil : F2 R [] []
  | cons {x : α} {y : β} {xs : List α} {ys : List β} : R x y → F2 R xs ys → F2 R (x :: xs) (y :: ys)
theorem F2.append {R : α → β → Prop} : ∀ {xs us : List α} {ys vs : List β}, F2 R xs ys → F2 R us vs → F2 R (xs ++ us) (ys ++ vs)
  | _, _, _, _, .nil, h => h
  | _, _, _, _, .cons r t, h => .cons r (t.append h)
theorem F2.len {R : α → β → Prop} : ∀ {xs : List α} {ys : List β}, F2 R xs ys → xs.length = ys.length
  | _, _, .nil => rfl
  | _, _, .cons _ t => congrArg (· + 1) t.len
theorem mapL_some {f : α → Option δ} {g : α → δ} : ∀ {xs : List α}, (∀ x ∈ xs, f x = some (g x)) → mapL f xs = some (xs.map g)
  | [], _ => rfl
  | x :: xs, h => by
    unfold mapL
    rw [h x (by simp), mapL_some fun y hy => h y (by simp [hy])]
    rfl
theorem mapO_some {f : α → Option δ} {g : α → δ} {xs : List α} (hl : xs.length ≤ 1000000) (h : ∀ x ∈ xs, f x = some (g x)) : mapO f xs = some (xs.map g) := by
  unfold mapO
  rw [if_pos hl, mapL_some h]
theorem fltL_some {t : α → Option Bool} {f : α → Option δ} {p : α → Bool} {g : α → δ} : ∀ {xs : List α}, (∀ x ∈ xs, t x = some (p x)) → (∀ x ∈ xs, p x = true → f x = some (g x)) → fltL t f xs = some ((xs.filter p).map g)
  | [], _, _ => rfl
  | x :: xs, h, k => by
    unfold fltL
    have ih := fltL_some (xs := xs) (fun y hy => h y (by simp [hy])) fun y hy => k y (by simp [hy])
    rw [h x (by simp), bsome]
    by_cases hp : p x = true
    · rw [if_pos hp, k x (by simp) hp, bsome, ih, bsome, List.filter_cons, if_pos hp]
      rfl
    · rw [if_neg hp, ih, List.filter_cons, if_neg hp]
theorem fltO_some {t : α → Option Bool} {f : α → Option δ} {p : α → Bool} {g : α → δ} {xs : List α} (hl : xs.length ≤ 1000000) (h : ∀ x ∈ xs, t x = some (p x)) (k : ∀ x ∈ xs, p x = true → f x = some (g x)) : fltO t f xs = some ((xs.filter p).map g) := by
  unfold fltO
  rw [if_pos hl, fltL_some h k]
/-- a comprehension whose elements change something -/
theorem mapT_inv {f : β → α → Option (δ × β)} (I : β → Prop) (R : α → δ → Prop) : ∀ {xs : List α} {s : β}, I s → (∀ x s, x ∈ xs → I s → ∃ y s', f s x = some (y, s') ∧ I s' ∧ R x y) → ∃ ys s', mapT f xs s = some (ys, s') ∧ I s' ∧ F2 R xs ys
  | [], s, h, _ => ⟨[], s, rfl, h, .nil⟩
  | x :: xs, s, h, k => by
    obtain ⟨y, s1, e1, h1, r1⟩ := k x s (by simp) h
    obtain ⟨ys, s2, e2, h2, r2⟩ := mapT_inv I R (xs := xs) h1 fun y s hy hs => k y s (by simp [hy]) hs
    refine ⟨y :: ys, s2, ?_, h2, .cons r1 r2⟩
    unfold mapT
    rw [e1, bsome, e2]
    rfl
theorem mapS_inv {f : β → α → Option (δ × β)} (I : β → Prop) (R : α → δ → Prop) {xs : List α} {s : β} (hl : xs.length ≤ 1000000) (h : I s) (k : ∀ x s, x ∈ xs → I s → ∃ y s', f s x = some (y, s') ∧ I s' ∧ R x y) : ∃ ys s', mapS f xs s = some (ys, s') ∧ I s' ∧ F2 R xs ys := by
  unfold mapS
  rw [if_pos hl]
  exact mapT_inv I R h k
theorem F2.ex_left {R : α → β → Prop} {P : β → Prop} : ∀ {xs : List α} {ys : List β}, F2 R xs ys → (∀ x y, R x y → P y) → ∀ y ∈ ys, P y
  | _, _, .nil, _, y, hy => by simp at hy
  | _, _, .cons r t, h, y, hy => by
    rcases List.mem_cons.mp hy with e | e
    · subst e; exact h _ _ r
    · exact t.ex_left h y e
theorem rangeI_zero (lo : Int) : rangeI lo 0 = [] := rfl
theorem rangeI_succ (lo : Int) (n : Nat) : rangeI lo (n + 1) = lo :: rangeI (lo + 1) n := by
  unfold rangeI
  rw [List.range_succ_eq_map, List.map_cons, List.map_map]
  simp only [Int.natCast_zero, Int.add_zero]
  congr 1
  refine List.map_congr_left fun i _ => ?_
  show lo + ((i + 1 : Nat) : Int) = lo + 1 + (i : Int)
  omega
theorem sIx_none (n d : Nat) : HT.sIx n d none = d := by simp [HT.sIx_none]
theorem sIx_some (n d : Nat) {k : Int} (h : 0 ≤ k) : HT.sIx n d (some k) = min k.toNat n := by
  obtain ⟨m, rfl⟩ : ∃ m : Nat, k = m := ⟨k.toNat, by omega⟩
  rw [HT.sIx_nat]
  simp
theorem cutL_take {xs : List α} {k : Int} (h : 0 ≤ k) : cutL xs none (some k) = xs.take k.toNat := by
  unfold cutL
  rw [sIx_none, sIx_some _ _ h, List.drop_zero, Nat.sub_zero]
  by_cases q : k.toNat ≤ xs.length
  · rw [Nat.min_eq_left q]
  · rw [Nat.min_eq_right (by omega), List.take_of_length_le (Nat.le_refl _), List.take_of_length_le (by omega)]
theorem cutL_drop {xs : List α} {k : Int} (h : 0 ≤ k) : cutL xs (some k) none = xs.drop k.toNat := by
  unfold cutL
  rw [sIx_none, sIx_some _ _ h]
  by_cases q : k.toNat ≤ xs.length
  · rw [Nat.min_eq_left q, List.take_of_length_le (by simp)]
  · rw [Nat.min_eq_right (by omega), List.drop_of_length_le (Nat.le_refl _), List.drop_of_length_le (by omega), List.take_nil]
theorem cutL_mid {xs : List α} {a b : Int} (ha : 0 ≤ a) (hb : 0 ≤ b) : cutL xs (some a) (some b) = (xs.drop a.toNat).take (b.toNat - a.toNat) := by
  unfold cutL
  rw [sIx_some _ _ ha, sIx_some _ _ hb]
  by_cases q : a.toNat ≤ xs.length
  · rw [Nat.min_eq_left q]
    by_cases r : b.toNat ≤ xs.length
    · rw [Nat.min_eq_left r]
    · rw [Nat.min_eq_right (by omega), List.take_of_length_le (by simp), List.take_of_length_le (by simp; omega)]
  · rw [List.drop_of_length_le (show xs.length ≤ min a.toNat xs.length by omega), List.drop_of_length_le (by omega), List.take_nil, List.take_nil]
theorem cutL_all {xs : List α} : cutL xs none none = xs := by
  unfold cutL
  rw [sIx_none, sIx_none, List.drop_zero, Nat.sub_zero, List.take_of_length_le (Nat.le_refl _)]
end
theorem thenR_idx {α β γ δ : Type} {f : β → α → Option (γ ⊕ β)} {xs : List α} {s0 : β} {k : β → Option δ} {g : γ → δ} {r : δ} (I : Nat → β → Prop) (h0 : I 0 s0) (hs : ∀ (i : Nat) x s, xs[i]? = some x → I i s → ∃ s', f s x = some (.inr s') ∧ I (i + 1) s') (he : ∀ s, I xs.length s → k s = some r) : thenR (foldB f xs s0) k g = some r := by
  obtain ⟨s, e, hI⟩ := foldB_idx (f := f) I (xs := xs) (n := 0) (s := s0) h0 fun i x s hx h => by
    rw [Nat.zero_add] at h
    rw [Nat.zero_add]
    exact hs i x s hx h
  rw [Nat.zero_add] at hI
  rw [thenR_r e, he s hI]
theorem bindM_idx {α β δ : Type} {f : β → α → Option β} {xs : List α} {s0 : β} {k : β → Option δ} {r : δ} (I : Nat → β → Prop) (h0 : I 0 s0) (hs : ∀ (i : Nat) x s, xs[i]? = some x → I i s → ∃ s', f s x = some s' ∧ I (i + 1) s') (he : ∀ s, I xs.length s → k s = some r) : Option.bind (List.foldlM f s0 xs) k = some r := by
  obtain ⟨s, e, hI⟩ := foldM_idx (f := f) I (xs := xs) (n := 0) (s := s0) h0 fun i x s hx h => by
    rw [Nat.zero_add] at h
    rw [Nat.zero_add]
    exact hs i x s hx h
  rw [Nat.zero_add] at hI
  rw [e, bsome, he s hI]
theorem whileO_mono {β : Type} {c : β → Option Bool} {f : β → Option β} : ∀ {n m : Nat} {s r : β}, whileO c f n s = some r → n ≤ m → whileO c f m s = some r
  | 0, _, _, _, h, _ => by cases h
  | n + 1, 0, _, _, _, h => by omega
  | n + 1, m + 1, s, r, h, hl => by
    have h : ((c s).bind fun b => if b = true then (f s).bind (whileO c f n) else some s) = some r := h
    show ((c s).bind fun b => if b = true then (f s).bind (whileO c f m) else some s) = some r
    cases hc : c s with
    | none => rw [hc] at h; cases h
    | some b =>
      rw [hc] at h
      cases b with
      | false => exact h
      | true =>
        have h : (f s).bind (whileO c f n) = some r := h
        show (f s).bind (whileO c f m) = some r
        cases hf : f s with
        | none => rw [hf] at h; cases h
        | some s' =>
          rw [hf] at h
          exact whileO_mono (n := n) (m := m) h (by omega)
theorem whileO_go {β : Type} {c : β → Option Bool} {f : β → Option β} {n : Nat} {s s' : β} (hc : c s = some true) (hf : f s = some s') : whileO c f (n + 1) s = whileO c f n s' := by
  show ((c s).bind fun b => if b = true then (f s).bind (whileO c f n) else some s) = _
  rw [hc]
  show (f s).bind (whileO c f n) = _
  rw [hf]
  rfl
theorem whileO_end {β : Type} {c : β → Option Bool} {f : β → Option β} {n : Nat} {s : β} (hc : c s = some false) : whileO c f (n + 1) s = some s := by
  show ((c s).bind fun b => if b = true then (f s).bind (whileO c f n) else some s) = _
  rw [hc]
  rfl
section
variable {α : Type}
theorem dGet_has {l : List (Int × α)} {k : Int} (h : dHas l k = true) : ∃ v, dGet l k = some v := by
  unfold dHas at h
  cases q : dGet l k with
  | none => rw [q] at h; cases h
  | some v => exact ⟨v, rfl⟩
theorem dHas_mem {l : List (Int × α)} {k : Int} : dHas l k = true ↔ k ∈ dKeys l := by
  induction l with
  | nil => simp [dHas, dGet, dKeys]
  | cons p l ih =>
    obtain ⟨k', v⟩ := p
    unfold dHas dGet dKeys at *
    by_cases e : k' = k
    · simp [List.find?_cons, e]
    · have e' : ¬ k = k' := fun q => e q.symm
      simp [List.find?_cons, e, e'] at ih ⊢
      try exact ih
theorem dGet_del {l : List (Int × α)} {k j : Int} : dGet (dDel l k) j = if j = k then none else dGet l j := by
  induction l with
  | nil => simp [dDel, dGet]
  | cons p l ih =>
    obtain ⟨k', v⟩ := p
    unfold dDel dGet at *
    by_cases e : k' = k
    · subst e
      rw [List.filter_cons, if_neg (by simp), ih]
      by_cases q : j = k'
      · rw [if_pos q, if_pos q]
      · rw [if_neg q, if_neg q, List.find?_cons]
        have : decide (k' = j) = false := decide_eq_false fun z => q z.symm
        simp only [this]
    · rw [List.filter_cons, if_pos (by simp [e]), List.find?_cons, List.find?_cons]
      by_cases q : k' = j
      · subst q
        simp [e]
      · simp only [decide_eq_false q]
        exact ih
theorem dGet_put {l : List (Int × α)} {k j : Int} {v : α} : dGet (dPut l k v) j = if j = k then some v else dGet l j := by
  have key : ∀ l : List (Int × α), dGet (l.map fun kv => if kv.1 = k then (kv.1, v) else kv) j = if j = k then (dGet l k).map fun _ => v else dGet l j := fun l => by
    induction l with
    | nil => simp [dGet]
    | cons p l ih =>
      obtain ⟨k', w⟩ := p
      unfold dGet at *
      rw [List.map_cons, List.find?_cons, List.find?_cons, List.find?_cons]
      by_cases e : k' = k
      · subst e
        by_cases q : j = k'
        · subst q; simp
        · have : ¬ k' = j := fun z => q z.symm
          simp only [if_true, decide_eq_false this, if_neg q] at ih ⊢
          exact ih
      · by_cases q : k' = j
        · subst q
          simp [e]
        · simp only [if_neg e, decide_eq_false q, decide_eq_false e] at ih ⊢
          exact ih
  unfold dPut
  split
  · rename_i h
    rw [key]
    by_cases q : j = k
    · rw [if_pos q, if_pos q]
      have : (dGet l k).isSome = true := by
        obtain ⟨p, hp, he⟩ := List.any_eq_true.mp h
        have : k ∈ dKeys l := List.mem_map.mpr ⟨p, hp, of_decide_eq_true he⟩
        exact dHas_mem.mpr this
      cases z : dGet l k with
      | none => rw [z] at this; cases this
      | some _ => rfl
    · rw [if_neg q, if_neg q]
  · rename_i h
    unfold dGet
    rw [List.find?_append]
    by_cases q : j = k
    · subst q
      have : l.find? (fun kv => decide (kv.1 = j)) = none := List.find?_eq_none.mpr fun p hp hd => h (List.any_eq_true.mpr ⟨p, hp, hd⟩)
      rw [this]
      simp
    · have : ¬ k = j := fun z => q z.symm
      rw [if_neg q]
      simp [this]
theorem dKeys_del (l : List (Int × α)) (k : Int) : dKeys (dDel l k) = (dKeys l).filter fun x => decide (x ≠ k) := by
  unfold dKeys dDel
  rw [List.filter_map]
  rfl
theorem dKeys_put_new {l : List (Int × α)} {k : Int} {v : α} (h : dHas l k = false) : dPut l k v = l ++ [(k, v)] := by
  unfold dPut
  rw [if_neg]
  intro q
  obtain ⟨p, hp, he⟩ := List.any_eq_true.mp q
  have : dHas l k = true := dHas_mem.mpr (List.mem_map.mpr ⟨p, hp, of_decide_eq_true he⟩)
  rw [h] at this
  cases this
end
theorem nodup_le : ∀ (n : Nat) (a : Int) (l : List Int), l.Nodup → (∀ x ∈ l, a ≤ x ∧ x < a + n) → l.length ≤ n
  | 0, a, [], _, _ => by simp
  | 0, a, x :: l, _, h => by have := h x (by simp); omega
  | n + 1, a, l, nd, h => by
    by_cases q : a + n ∈ l
    · have h1 := nodup_le n a (l.erase (a + n)) (nd.erase _) fun x hx => by
        have hx := nd.mem_erase_iff.mp hx
        have := h x hx.2
        have := hx.1
        omega
      rw [List.length_erase_of_mem q] at h1
      omega
    · have h1 := nodup_le n a l nd fun x hx => by
        have := h x hx
        have : x ≠ a + n := fun e => q (e ▸ hx)
        omega
      omega
theorem filter_lt {k : Int} : ∀ {l : List Int}, k ∈ l → (l.filter fun x => decide (x ≠ k)).length < l.length
  | [], h => by simp at h
  | x :: l, h => by
    rw [List.filter_cons]
    by_cases e : x = k
    · subst e
      rw [if_neg (by simp)]
      have := List.length_filter_le (fun y => decide (y ≠ x)) l
      simp only [List.length_cons]
      omega
    · rw [if_pos (by simp [e])]
      have h : k ∈ l := by
        rcases List.mem_cons.mp h with q | q
        · exact absurd q.symm e
        · exact q
      have := filter_lt h
      simp only [List.length_cons]
      omega
theorem has_del {α : Type} {l : List (Int × α)} {k j : Int} : dHas (dDel l k) j = true ↔ (j ≠ k ∧ dHas l j = true) := by
  unfold dHas
  rw [dGet_del]
  by_cases q : j = k
  · simp [q]
  · simp [q]
/-- a dict by what it holds -/
structure Dct {α : Type} (P : Int → α) (K : Int → Prop) (d : List (Int × α)) : Prop where
  nd : (dKeys d).Nodup
  val : ∀ k v, dGet d k = some v → v = P k
  has : ∀ k, dHas d k = true ↔ K k
namespace Dct
variable {α : Type} {P : Int → α} {K : Int → Prop} {d : List (Int × α)}
theorem empty : Dct P (fun _ => False) ([] : List (Int × α)) := ⟨.nil, fun k v h => by simp [dGet] at h, fun k => by simp [dHas, dGet]⟩
theorem congr (D : Dct P K d) {Q : Int → α} {L : Int → Prop} (hp : ∀ k, K k → P k = Q k) (h : ∀ k, K k ↔ L k) : Dct Q L d :=
  ⟨D.nd, fun k v e => (D.val k v e).trans (hp k ((D.has k).mp (by unfold dHas; rw [e]; rfl))), fun k => (D.has k).trans (h k)⟩
theorem get (D : Dct P K d) {k : Int} (h : K k) : dGet d k = some (P k) := by
  obtain ⟨v, e⟩ := dGet_has ((D.has k).mpr h)
  rw [e, D.val k v e]
theorem mem (D : Dct P K d) {k : Int} : k ∈ dKeys d ↔ K k := dHas_mem.symm.trans (D.has k)
theorem not (D : Dct P K d) {k : Int} (h : ¬ K k) : dHas d k = false := by
  cases q : dHas d k with
  | false => rfl
  | true => exact absurd ((D.has k).mp q) h
theorem del (D : Dct P K d) (c : Int) : Dct P (fun k => K k ∧ k ≠ c) (dDel d c) where
  nd := by rw [dKeys_del]; exact D.nd.filter _
  val := fun k v h => by
    rw [dGet_del] at h
    split at h
    · cases h
    · exact D.val k v h
  has := fun k => by
    rw [has_del, D.has]
    exact And.comm
theorem put (D : Dct P K d) {c : Int} {v : α} (h : ¬ K c) (ev : v = P c) : Dct P (fun k => K k ∨ k = c) (dPut d c v) := by
  have hp := dKeys_put_new (v := v) (D.not h)
  refine ⟨?_, fun k w hg => ?_, fun k => ?_⟩
  · rw [hp]
    unfold dKeys
    rw [List.map_append]
    refine List.nodup_append.mpr ⟨D.nd, by simp, fun a ha b hb e => ?_⟩
    have hb : b = c := by simpa using hb
    subst e hb
    exact h (D.mem.mp ha)
  · rw [dGet_put] at hg
    by_cases e : k = c
    · subst e
      rw [if_pos rfl] at hg
      exact (Option.some.inj hg).symm.trans ev
    · rw [if_neg e] at hg
      exact D.val k w hg
  · have : dHas (dPut d c v) k = true ↔ (k = c ∨ dHas d k = true) := by
      unfold dHas
      rw [dGet_put]
      by_cases e : k = c
      · simp [e]
      · simp [e]
    rw [this, D.has]
    exact Or.comm
theorem len (D : Dct P K d) {a : Int} {n : Nat} (h : ∀ k, K k → a ≤ k ∧ k < a + n) : d.length ≤ n := by
  have := nodup_le n a (dKeys d) D.nd fun x hx => h x (D.mem.mp hx)
  unfold dKeys at this
  rwa [List.length_map] at this
theorem klen : (dKeys d).length = d.length := by unfold dKeys; rw [List.length_map]
theorem slen : (srtI (dKeys d)).length = d.length := by rw [(srtI_perm _).length_eq, klen]
theorem smem (D : Dct P K d) {k : Int} : k ∈ srtI (dKeys d) ↔ K k := (srtI_perm _).mem_iff.trans D.mem
theorem srt (D : Dct P K d) (hl : d.length ≤ 1000000) : mapO (fun c : Int => Option.bind (dGet d c) fun v => some (c, v)) (srtI (dKeys d)) = some ((srtI (dKeys d)).map fun c => (c, P c)) := mapO_some (by rw [slen]; exact hl) fun x hx => by
  rw [D.get (D.smem.mp hx)]
  rfl
theorem unique (D : Dct P K d) {l : List Int} (nd : l.Nodup) (s : l.Pairwise (· ≤ ·)) (h : ∀ k, k ∈ l ↔ K k) : srtI (dKeys d) = l :=
  sorted_unique ((srtI_perm _).trans ((List.perm_ext_iff_of_nodup D.nd nd).mpr fun x => D.mem.trans (h x).symm)) (srtI_sorted _) s
end Dct
theorem minI_some (x : Int) (xs : List Int) : ∃ m, minI (x :: xs) = some m ∧ m ∈ x :: xs ∧ ∀ y ∈ x :: xs, m ≤ y := ⟨_, rfl, foldl_min xs x⟩
theorem fltO_id {α : Type} {t : α → Option Bool} {p : α → Bool} {xs : List α} (hl : xs.length ≤ 1000000) (h : ∀ x ∈ xs, t x = some (p x)) : fltO t (fun x => some x) xs = some (xs.filter p) := (fltO_some (g := id) hl h fun _ _ _ => rfl).trans (by rw [List.map_id])
/-- items by their places -/
theorem F2.get {α β : Type} {R : α → β → Prop} : ∀ {xs : List α} {ys : List β} {i : Nat} {x : α}, F2 R xs ys → xs[i]? = some x → ∃ y, ys[i]? = some y ∧ R x y
  | _, _, i, _, .nil, h => by simp at h
  | _, _, 0, _, .cons r t, h => by
    have := Option.some.inj (by simpa using h)
    subst this
    exact ⟨_, rfl, r⟩
  | _, _, i + 1, _, .cons r t, h => F2.get (i := i) t (by simpa using h)
theorem atI_some {α : Type} {l : List α} {i : Int} (h0 : 0 ≤ i) (h1 : i < l.length) : ∃ x, atI l i = some x ∧ l[i.toNat]? = some x := by
  rw [atI_nn h0]
  exact ⟨_, List.getElem?_eq_getElem (by omega), List.getElem?_eq_getElem (by omega)⟩
theorem popL_zero {α : Type} (a : α) (xs : List α) : popL (a :: xs) 0 = some (a, xs) := by
  unfold popL
  rw [if_pos (by decide)]
  have : seqIndex? 0 (a :: xs).length = some 0 := by
    unfold seqIndex?
    simp
  rw [this]
  rfl
end Mr

namespace MyLaw
open PySem PySem.Spec PyProof.Rows L2 Mr
def topS (i : Nat) : Stmt := PySem.Challenge.pw_bearerwise_k36_senders_that_have_a_piece.main.body.getD i (.Pass ⟨0, 0, 0, 0⟩)

structure M_Sender where
  bits : Int
  window : Int
  low : Int
  next_ : Int
  queue : (List (List Int))
  kept : (List (Int × (List Int)))
  sent : Int
  again : (List (T3 Int Int Int))
  silent : Int
abbrev ns_Sender : List Str := ["bits", "window", "low", "next", "queue", "kept", "sent", "again", "silent"]
theorem nd_Sender : ns_Sender.Nodup := by decide +kernel
structure CF_Sender (K : PySem.W.Frag) (C : Addr) : Prop where
  cl : Cls K C
  n_bits : NoAttr K C "bits"
  n_window : NoAttr K C "window"
  n_low : NoAttr K C "low"
  n_next : NoAttr K C "next"
  n_queue : NoAttr K C "queue"
  n_kept : NoAttr K C "kept"
  n_sent : NoAttr K C "sent"
  n_again : NoAttr K C "again"
  n_silent : NoAttr K C "silent"
theorem nm_Sender_put : ("put" : Str) ∉ ns_Sender := by decide +kernel
theorem nm_Sender_sent_of : ("sent_of" : Str) ∉ ns_Sender := by decide +kernel
theorem nm_Sender_is_begun : ("is_begun" : Str) ∉ ns_Sender := by decide +kernel
theorem nm_Sender_can_begin : ("can_begin" : Str) ∉ ns_Sender := by decide +kernel
theorem nm_Sender_has_work : ("has_work" : Str) ∉ ns_Sender := by decide +kernel
theorem nm_Sender_choice : ("choice" : Str) ∉ ns_Sender := by decide +kernel
theorem nm_Sender_fitting : ("fitting" : Str) ∉ ns_Sender := by decide +kernel
theorem nm_Sender_has_piece : ("has_piece" : Str) ∉ ns_Sender := by decide +kernel
theorem nm_Sender_send : ("send" : Str) ∉ ns_Sender := by decide +kernel
theorem nm_Sender_true_number : ("true_number" : Str) ∉ ns_Sender := by decide +kernel
theorem nm_Sender_ask : ("ask" : Str) ∉ ns_Sender := by decide +kernel
theorem nm_Sender_take_status : ("take_status" : Str) ∉ ns_Sender := by decide +kernel
theorem nm_Sender_tick : ("tick" : Str) ∉ ns_Sender := by decide +kernel
theorem nm_Sender_unconfirmed : ("unconfirmed" : Str) ∉ ns_Sender := by decide +kernel
theorem nm_Sender_waiting : ("waiting" : Str) ∉ ns_Sender := by decide +kernel
theorem nm_Sender_is_idle : ("is_idle" : Str) ∉ ns_Sender := by decide +kernel
abbrev o_Sender (K : PySem.W.Frag) (cl_Sender : Addr) (cl_BearerError : Addr) (cl_NotValid : Addr) (x : M_Sender) : OA := aObj cl_Sender ns_Sender [(aD K (Cd.d (x.bits : Int))), (aD K (Cd.d (x.window : Int))), (aD K (Cd.d (x.low : Int))), (aD K (Cd.d (x.next_ : Int))), (aLD K (List.map Cd.d (x.queue : List (List Int)))), (aDK K (dD (x.kept : (List (Int × (List Int)))))), (aD K (Cd.d (x.sent : Int))), (aLD K (List.map Cd.d (x.again : List (T3 Int Int Int)))), (aD K (Cd.d (x.silent : Int)))]
def m_check_widths (widths : (List Int)) : Option Unit :=
  (Option.bind (List.foldlM (fun (s_1 : Unit) (width_2 : Int) =>
  (Option.bind (if (decide (width_2 < 1)) = true then
  none else
  (some ())) fun s_4 =>
  (some ()))) () widths) fun s_5 =>
  (some ()))
abbrev sp_check_widths (K : PySem.W.Frag) (cl_Sender : Addr) (cl_BearerError : Addr) (cl_NotValid : Addr) : Sp := SpM (fun x : (List Int) => [(aD K (Cd.d (x : (List Int))))]) (fun x => m_check_widths x) (fun x (r : Unit) => [none]) (fun _ r => aD K .none)
abbrev s_check_widths : Stmt := topS 4
theorem sc_check_widths : FnScope ["widths", "width"] ["widths"] (defScope s_check_widths) := ⟨rfl, rfl, rfl, by decide +kernel, rfl, by decide +kernel, by decide +kernel⟩
set_option maxHeartbeats 4000000 in
theorem ok_check_widths {P : Program} {w : World} {K : PySem.W.Frag} {mg : Str → Option Value} {base : Heap} {f : Addr} {cl_Sender : Addr} {cl_BearerError : Addr} {cl_NotValid : Addr} {fd : FuncData} (F : Fun K "check_widths" "check_widths" s_check_widths f fd) (T_Sender : CF_Sender K cl_Sender) (X_BearerError : ExK K mg "BearerError" cl_BearerError) (E_BearerError : ExcC K cl_BearerError) (X_NotValid : ExK K mg "NotValid" cl_NotValid) (E_NotValid : ExcC K cl_NotValid) (xm_NotValid_BearerError : PySem.W.exmOne K (.ref cl_NotValid) (.ref cl_BearerError) = some true) (xk_NotValid_NotValid : PySem.W.kitOne K (.ref cl_NotValid) (.ref cl_NotValid) = some true)  : FnOk P w K mg base CX0 1 f fd ["widths"] (sp_check_widths K cl_Sender cl_BearerError cl_NotValid) :=
  fn_okN (k := 0) [false] F sc_check_widths rfl (fun _ => rfl) (fun _ _ => rfl) fun x vs cdv A outer s H E hv hr => by
    match x, vs, hv with
    | widths, [pa0], _ =>
      have nd := sc_check_widths.nd
      show XG _ _ [some (aD K (Cd.d (widths : (List Int)))), none] (m_check_widths widths) (oS fun r : Unit => [none, none])
      unfold m_check_widths
      exact (xg_st [some (aD K (Cd.d (widths : (List Int)))), none] rfl (xg_for (N := (fun s_1 : Unit => [some (aD K (Cd.d (widths : (List Int)))), none])) PassesOwn.never rfl (xi_list (xs := widths) (cv := Cd.d) (xe_nm 0 rfl)) (wk_k (wk_n wk_0)) (fun _ => trivial) (fun _ _ => (xp_nm 1)) (fun width_2 s_1 => (xg_st [some (aD K (Cd.d (widths : (List Int)))), some (aD K (Cd.d (width_2 : Int)))] rfl (xg_if (N := (fun s_4 : Unit => [some (aD K (Cd.d (widths : (List Int)))), some (aD K (Cd.d (width_2 : Int)))])) (xt_k (xk_lt (xe_nm 1 rfl) xe_int)) (fun _ => (xg_st [some (aD K (Cd.d (widths : (List Int)))), some (aD K (Cd.d (width_2 : Int)))] rfl xg_none)) (fun _ => (xg_nilS (wk_k (wk_k wk_0)))) (fun s_4 => (xg_nilS (wk_k (wk_n wk_0))))))) (fun s_5 => (xg_nilS (wk_n (wk_n wk_0))))))
def m_field_bytes (widths : (List Int)) : Option Int :=
  (Option.bind (m_check_widths widths) fun v_6 =>
  (some (((List.sum widths) + 7) / 8)))
abbrev sp_field_bytes (K : PySem.W.Frag) (cl_Sender : Addr) (cl_BearerError : Addr) (cl_NotValid : Addr) : Sp := SpM (fun x : (List Int) => [(aD K (Cd.d (x : (List Int))))]) (fun x => m_field_bytes x) (fun x (r : Int) => [none]) (fun _ r => (aD K (Cd.d (r : Int))))
abbrev s_field_bytes : Stmt := topS 5
theorem sc_field_bytes : FnScope ["widths"] ["widths"] (defScope s_field_bytes) := ⟨rfl, rfl, rfl, by decide +kernel, rfl, by decide +kernel, by decide +kernel⟩
set_option maxHeartbeats 4000000 in
theorem ok_field_bytes {P : Program} {w : World} {K : PySem.W.Frag} {mg : Str → Option Value} {base : Heap} {f : Addr} {cl_Sender : Addr} {cl_BearerError : Addr} {cl_NotValid : Addr} {fd : FuncData} (F : Fun K "field_bytes" "field_bytes" s_field_bytes f fd) (T_Sender : CF_Sender K cl_Sender) (X_BearerError : ExK K mg "BearerError" cl_BearerError) (E_BearerError : ExcC K cl_BearerError) (X_NotValid : ExK K mg "NotValid" cl_NotValid) (E_NotValid : ExcC K cl_NotValid) (xm_NotValid_BearerError : PySem.W.exmOne K (.ref cl_NotValid) (.ref cl_BearerError) = some true) (xk_NotValid_NotValid : PySem.W.kitOne K (.ref cl_NotValid) (.ref cl_NotValid) = some true) (m_sum : mg "sum" = none) (c_check_widths : Cal P w K mg base 1 "check_widths" (sp_check_widths K cl_Sender cl_BearerError cl_NotValid)) : FnOk P w K mg base CX0 2 f fd ["widths"] (sp_field_bytes K cl_Sender cl_BearerError cl_NotValid) :=
  fn_ok (k := 1) [false] F sc_field_bytes rfl (fun _ => rfl) (fun _ _ => rfl) fun x vs cdv A outer s H E hv hr => by
    match x, vs, hv with
    | widths, [pa0], _ =>
      have nd := sc_field_bytes.nd
      show XG _ _ [some (aD K (Cd.d (widths : (List Int))))] (m_field_bytes widths) (oR fun r : Int => [some ((aD K (Cd.d (r : Int)))), none])
      unfold m_field_bytes
      exact (xg_st [some (aD K (Cd.d (widths : (List Int))))] rfl (xg_bind fun v_6 hv_6 =>
  (xg_expr (xe_callX (xx := widths) c_check_widths (hr.mono (by decide)) hv_6 (xx_of (xa_cons (xe_nm 0 rfl) xa_nil)) rfl rfl Fill.nil) (xg_st [some (aD K (Cd.d (widths : (List Int))))] rfl (xg_ret (A := (aD K (Cd.d ((((List.sum widths) + 7) / 8) : Int)))) (xe_div (by decide) (xe_add (xe_sum (ns := widths) rfl (xe_nm 0 rfl) rlD m_sum) xe_int) xe_int) (wk_k (wk_n wk_0)))))))
def m_pack (widths : (List Int)) (values : (List Int)) : Option (List Int) :=
  (Option.bind (m_check_widths widths) fun v_7 =>
  (if (!(decide ((((List.length widths : Nat) : Int) : Int) = ((List.length values : Nat) : Int)))) = true then
  none else
  (Option.bind (List.foldlM (fun (s_8 : Int) (width_9 : (Int × Int)) =>
  (Option.bind ((if (decide (width_9.2 < 0)) = true then some true else (Option.bind (guardO (PowOk 1 width_9.1)) fun g_17 => (some (decide ((1 * 2 ^ Int.toNat width_9.1) ≤ width_9.2)))))) fun c_18 =>
  (Option.bind (if c_18 = true then
  none else
  (some ())) fun s_19 =>
  (Option.bind (guardO (PowOk s_8 width_9.1)) fun g_20 =>
  (lett (((s_8 * 2 ^ Int.toNat width_9.1) + width_9.2) : Int) fun whole_21 =>
  (some whole_21)))))) 0 (List.zip widths values)) fun s_22 =>
  (Option.bind (m_field_bytes widths) fun v_23 =>
  (Option.bind (guardO (PowOk s_22 ((8 * v_23) - (List.sum widths)))) fun g_24 =>
  (lett ((s_22 * 2 ^ Int.toNat ((8 * v_23) - (List.sum widths))) : Int) fun whole_25 =>
  (Option.bind (guardO (-(2 ^ 62) ≤ v_23 ∧ v_23 < 2 ^ 62)) fun g_26 =>
  (Option.bind (mapO (fun index_27 : Int => (Option.bind (guardO (0 ≤ (8 * ((v_23 - 1) - index_27)))) fun g_29 => (some ((whole_25 / 2 ^ Int.toNat (8 * ((v_23 - 1) - index_27))) % 256)))) (rangeI 0 (Int.toNat v_23))) fun ys_30 =>
  (some ys_30)))))))))
abbrev sp_pack (K : PySem.W.Frag) (cl_Sender : Addr) (cl_BearerError : Addr) (cl_NotValid : Addr) : Sp := SpM (fun x : ((List Int) × (List Int)) => [(aD K (Cd.d (x.1 : (List Int)))), (aD K (Cd.d (x.2 : (List Int))))]) (fun x => m_pack x.1 x.2) (fun x (r : (List Int)) => [none, none]) (fun _ r => (aD K (Cd.d (r : (List Int)))))
abbrev s_pack : Stmt := topS 6
theorem sc_pack : FnScope ["widths", "values", "whole", "many", "width", "value", "index"] ["widths", "values"] (defScope s_pack) := ⟨rfl, rfl, rfl, by decide +kernel, rfl, by decide +kernel, by decide +kernel⟩
set_option maxHeartbeats 4000000 in
theorem ok_pack {P : Program} {w : World} {K : PySem.W.Frag} {mg : Str → Option Value} {base : Heap} {f : Addr} {cl_Sender : Addr} {cl_BearerError : Addr} {cl_NotValid : Addr} {fd : FuncData} (F : Fun K "pack" "pack" s_pack f fd) (T_Sender : CF_Sender K cl_Sender) (X_BearerError : ExK K mg "BearerError" cl_BearerError) (E_BearerError : ExcC K cl_BearerError) (X_NotValid : ExK K mg "NotValid" cl_NotValid) (E_NotValid : ExcC K cl_NotValid) (xm_NotValid_BearerError : PySem.W.exmOne K (.ref cl_NotValid) (.ref cl_BearerError) = some true) (xk_NotValid_NotValid : PySem.W.kitOne K (.ref cl_NotValid) (.ref cl_NotValid) = some true) (m_len : mg "len" = none) (m_range : mg "range" = none) (m_sum : mg "sum" = none) (m_zip : mg "zip" = none) (c_check_widths : Cal P w K mg base 1 "check_widths" (sp_check_widths K cl_Sender cl_BearerError cl_NotValid)) (c_field_bytes : Cal P w K mg base 2 "field_bytes" (sp_field_bytes K cl_Sender cl_BearerError cl_NotValid)) : FnOk P w K mg base CX0 3 f fd ["widths", "values"] (sp_pack K cl_Sender cl_BearerError cl_NotValid) :=
  fn_ok (k := 2) [false, false] F sc_pack rfl (fun _ => rfl) (fun _ _ => rfl) fun x vs cdv A outer s H E hv hr => by
    match x, vs, hv with
    | (widths, values), [pa0, pa1], _ =>
      have nd := sc_pack.nd
      show XG _ _ [some (aD K (Cd.d (widths : (List Int)))), some (aD K (Cd.d (values : (List Int)))), none, none, none, none, none] (m_pack widths values) (oR fun r : (List Int) => [some ((aD K (Cd.d (r : (List Int))))), none, none, none, none, none, none, none])
      unfold m_pack
      exact (xg_st [some (aD K (Cd.d (widths : (List Int)))), some (aD K (Cd.d (values : (List Int)))), none, none, none, none, none] rfl (xg_bind fun v_7 hv_7 =>
  (xg_expr (xe_callX (xx := widths) c_check_widths (hr.mono (by decide)) hv_7 (xx_of (xa_cons (xe_nm 0 rfl) xa_nil)) rfl rfl Fill.nil) (xg_st [some (aD K (Cd.d (widths : (List Int)))), some (aD K (Cd.d (values : (List Int)))), none, none, none, none, none] rfl (xg_ifR (u := []) (xt_k (xkc_ne (x := (((List.length widths : Nat) : Int) : Int)) (y := (((List.length values : Nat) : Int) : Int)) hr.units (xc_len (xs := widths) (xe_nm 0 rfl) rlD m_len) (xc_len (xs := values) (xe_nm 1 rfl) rlD m_len) rdD rdD)) (fun _ => (xg_st [some (aD K (Cd.d (widths : (List Int)))), some (aD K (Cd.d (values : (List Int)))), none, none, none, none, none] rfl xg_none)) (fun _ => (xg_st [some (aD K (Cd.d (widths : (List Int)))), some (aD K (Cd.d (values : (List Int)))), none, none, none, none, none] rfl (xg_asg 2 (A := aD K (Cd.d (0 : Int))) xe_int (xg_st [some (aD K (Cd.d (widths : (List Int)))), some (aD K (Cd.d (values : (List Int)))), some (aD K (Cd.d (0 : Int))), none, none, none, none] rfl (xg_for (N := (fun s_8 : Int => [some (aD K (Cd.d (widths : (List Int)))), some (aD K (Cd.d (values : (List Int)))), some (aD K (Cd.d (s_8 : Int))), none, none, none, none])) PassesOwn.never rfl (xi_zip (xs := widths) (ys := values) (by exact rfl) m_zip (xe_nm 0 rfl) (xe_nm 1 rfl)) (wk_k (wk_k (wk_k (wk_n (wk_n (wk_n (wk_n wk_0))))))) (fun _ => trivial) (fun _ _ => (xp_tup rfl (xps_cons (xp_nm 4) (xps_cons (xp_nm 5) xps_nil)))) (fun width_9 s_8 => (xg_st [some (aD K (Cd.d (widths : (List Int)))), some (aD K (Cd.d (values : (List Int)))), some (aD K (Cd.d (s_8 : Int))), none, some (aD K (Cd.d (width_9.1 : Int))), some (aD K (Cd.d (width_9.2 : Int))), none] rfl (xg_bind fun c_18 hc_18 =>
  (xg_if (N := (fun s_19 : Unit => [some (aD K (Cd.d (widths : (List Int)))), some (aD K (Cd.d (values : (List Int)))), some (aD K (Cd.d (s_8 : Int))), none, some (aD K (Cd.d (width_9.1 : Int))), some (aD K (Cd.d (width_9.2 : Int))), none])) (xt_w (xw_orM (xt_k (xk_lt (xe_nm 5 rfl) xe_int)) (xwm_or1 (xtm_bind fun g_17 hg_17 => (xtm_some (xt_k (xk_ge (xe_nm 5 rfl) (xe_shl (guardO_eq hg_17) xe_int (xe_nm 4 rfl))))))) hc_18)) (fun _ => (xg_st [some (aD K (Cd.d (widths : (List Int)))), some (aD K (Cd.d (values : (List Int)))), some (aD K (Cd.d (s_8 : Int))), none, some (aD K (Cd.d (width_9.1 : Int))), some (aD K (Cd.d (width_9.2 : Int))), none] rfl xg_none)) (fun _ => (xg_nilS (wk_k (wk_k (wk_k (wk_n (wk_k (wk_k (wk_n wk_0))))))))) (fun s_19 => (xg_st [some (aD K (Cd.d (widths : (List Int)))), some (aD K (Cd.d (values : (List Int)))), some (aD K (Cd.d (s_8 : Int))), none, some (aD K (Cd.d (width_9.1 : Int))), some (aD K (Cd.d (width_9.2 : Int))), none] rfl (xg_bind fun g_20 hg_20 =>
  (xg_lett fun whole_21 hwhole_21 =>
  (xg_asg 2 (A := aD K (Cd.d (whole_21 : Int))) (xe_nv (v := (((s_8 * 2 ^ Int.toNat width_9.1) + width_9.2) : Int)) (xe_add (xe_shl (guardO_eq hg_20) (xe_nm 2 rfl) (xe_nm 4 rfl)) (xe_nm 5 rfl)) hwhole_21) (xg_nilS (wk_k (wk_k (wk_k (wk_n (wk_n (wk_n (wk_n wk_0))))))))))))))))) (fun s_22 => (xg_st [some (aD K (Cd.d (widths : (List Int)))), some (aD K (Cd.d (values : (List Int)))), some (aD K (Cd.d (s_22 : Int))), none, none, none, none] rfl (xg_bind fun v_23 hv_23 =>
  (xg_asg 3 (A := aD K (Cd.d (v_23 : Int))) (xe_callX (xx := widths) c_field_bytes (hr.mono (by decide)) hv_23 (xx_of (xa_cons (xe_nm 0 rfl) xa_nil)) rfl rfl Fill.nil) (xg_st [some (aD K (Cd.d (widths : (List Int)))), some (aD K (Cd.d (values : (List Int)))), some (aD K (Cd.d (s_22 : Int))), some (aD K (Cd.d (v_23 : Int))), none, none, none] rfl (xg_bind fun g_24 hg_24 =>
  (xg_lett fun whole_25 hwhole_25 =>
  (xg_asg 2 (A := aD K (Cd.d (whole_25 : Int))) (xe_nv (v := ((s_22 * 2 ^ Int.toNat ((8 * v_23) - (List.sum widths))) : Int)) (xe_shl (guardO_eq hg_24) (xe_nm 2 rfl) (xe_sub (xe_mul (mulL 8) xe_int (xe_nm 3 rfl)) (xe_sum (ns := widths) rfl (xe_nm 0 rfl) rlD m_sum))) hwhole_25) (xg_st [some (aD K (Cd.d (widths : (List Int)))), some (aD K (Cd.d (values : (List Int)))), some (aD K (Cd.d (whole_25 : Int))), some (aD K (Cd.d (v_23 : Int))), none, none, none] rfl (xg_bind fun g_26 hg_26 =>
  (xg_bind fun ys_30 hys_30 =>
  (xg_ret (A := (aD K (Cd.d (ys_30 : (List Int))))) (xe_frz (xe_lc (xc_imp (xc_mapO 6 hys_30 (xi_range1 (by exact rfl) m_range (xe_nm 3 rfl) (guardO_eq hg_26)) trivial (Nat.le_of_ble_eq_true rfl) (el := fun y => (aD K (Cd.d (y : Int)))) (fun _ _ _ _ _ index_27 => (xem_bind fun g_29 hg_29 => (xem_some (xe_mod (by decide) (xe_shr (guardO_eq hg_29) (xe_nm 2 rfl) (xe_mul (mulL 8) xe_int (xe_sub (xe_sub (xe_nm 3 rfl) xe_int) (xe_nm 6 rfl)))) xe_int))))) (aLD_map Cd.d _)) rfl nd (blkOk_by (N := ["widths", "values", "whole", "many", "width", "value", "index"]) (sc := defScope s_pack) (by decide +kernel)) (fun _ _ _ _ _ => pg_name nd rfl (.inl rfl)))) (wk_k (wk_n (wk_n (wk_n (wk_n (wk_n (wk_n (wk_n wk_0))))))))))))))))))))))))))))))
def m_data_widths (bits : Int) (part : Int) : Option (List Int) :=
  (Option.bind (if ((decide ((part : Int) = 2)) || (decide ((part : Int) = 3))) = true then
  (Option.bind (guardO (List.length [1, 1, bits, 2] < 1000000)) fun g_34 =>
  (some ([1, 1, bits, 2] ++ [8]))) else
  (some [1, 1, bits, 2])) fun s_33 =>
  (some s_33))
abbrev sp_data_widths (K : PySem.W.Frag) (cl_Sender : Addr) (cl_BearerError : Addr) (cl_NotValid : Addr) : Sp := SpM (fun x : (Int × Int) => [(aD K (Cd.d (x.1 : Int))), (aD K (Cd.d (x.2 : Int)))]) (fun x => m_data_widths x.1 x.2) (fun x (r : (List Int)) => [none, none]) (fun _ r => (aD K (Cd.d (r : (List Int)))))
abbrev s_data_widths : Stmt := topS 13
theorem sc_data_widths : FnScope ["bits", "part", "widths"] ["bits", "part"] (defScope s_data_widths) := ⟨rfl, rfl, rfl, by decide +kernel, rfl, by decide +kernel, by decide +kernel⟩
set_option maxHeartbeats 4000000 in
theorem ok_data_widths {P : Program} {w : World} {K : PySem.W.Frag} {mg : Str → Option Value} {base : Heap} {f : Addr} {cl_Sender : Addr} {cl_BearerError : Addr} {cl_NotValid : Addr} {fd : FuncData} (F : Fun K "data_widths" "data_widths" s_data_widths f fd) (T_Sender : CF_Sender K cl_Sender) (X_BearerError : ExK K mg "BearerError" cl_BearerError) (E_BearerError : ExcC K cl_BearerError) (X_NotValid : ExK K mg "NotValid" cl_NotValid) (E_NotValid : ExcC K cl_NotValid) (xm_NotValid_BearerError : PySem.W.exmOne K (.ref cl_NotValid) (.ref cl_BearerError) = some true) (xk_NotValid_NotValid : PySem.W.kitOne K (.ref cl_NotValid) (.ref cl_NotValid) = some true)  {t_END : Tok} (g_END : mg "END" = some (.int 2 t_END)) {t_WITHIN : Tok} (g_WITHIN : mg "WITHIN" = some (.int 3 t_WITHIN)) : FnOk P w K mg base CX0 1 f fd ["bits", "part"] (sp_data_widths K cl_Sender cl_BearerError cl_NotValid) :=
  fn_ok (k := 0) [false, false] F sc_data_widths rfl (fun _ => rfl) (fun _ _ => rfl) fun x vs cdv A outer s H E hv hr => by
    match x, vs, hv with
    | (bits, part), [pa0, pa1], _ =>
      have nd := sc_data_widths.nd
      show XG _ _ [some (aD K (Cd.d (bits : Int))), some (aD K (Cd.d (part : Int))), none] (m_data_widths bits part) (oR fun r : (List Int) => [some ((aD K (Cd.d (r : (List Int))))), none, none, none])
      unfold m_data_widths
      exact (xg_st [some (aD K (Cd.d (bits : Int))), some (aD K (Cd.d (part : Int))), none] rfl (xg_asgP 2 (xe_lstD (xs := ([1, 1, bits, 2] : List Int)) (xa_cons xe_int (xa_cons xe_int (xa_cons (xe_nm 0 rfl) (xa_cons xe_int xa_nil)))) (Nat.le_of_ble_eq_true rfl)) fun pv_31 => (xg_st [some (aD K (Cd.d (bits : Int))), some (aD K (Cd.d (part : Int))), some (pin pv_31 (aLD K (List.map Cd.d ([1, 1, bits, 2] : List Int))))] rfl (xg_if (N := (fun s_33 : (List Int) => [some (aD K (Cd.d (bits : Int))), some (aD K (Cd.d (part : Int))), some (pin pv_31 (aLD K (List.map Cd.d (s_33 : List Int))))])) (xt_w (xw_or (xt_k (xkc_eq (x := (part : Int)) (y := (2 : Int)) hr.units (xe_nm 1 rfl) (xe_gInt rfl g_END ⟨_, rfl⟩) rdD rdD)) fun _ => (xw_or1 (xt_k (xkc_eq (x := (part : Int)) (y := (3 : Int)) hr.units (xe_nm 1 rfl) (xe_gInt rfl g_WITHIN ⟨_, rfl⟩) rdD rdD))))) (fun _ => (xg_st [some (aD K (Cd.d (bits : Int))), some (aD K (Cd.d (part : Int))), some (pin pv_31 (aLD K (List.map Cd.d ([1, 1, bits, 2] : List Int))))] rfl (xg_bind fun g_34 hg_34 =>
  (xg_expr (xe_appendDW (cv := Cd.d) (xs := [1, 1, bits, 2]) (x := 8) (xe_nmV 2 rfl) (Own.slot 2 rfl) xe_int (Own.slot 2 rfl) (sz_lt (guardO_eq hg_34))) (xg_nilS (wk_k (wk_k (wk_k wk_0)))))))) (fun _ => (xg_nilS (wk_k (wk_k (wk_k wk_0))))) (fun s_33 => (xg_st [some (aD K (Cd.d (bits : Int))), some (aD K (Cd.d (part : Int))), some (pin pv_31 (aLD K (List.map Cd.d (s_33 : List Int))))] rfl (xg_freeze 2 rfl (xg_st [some (aD K (Cd.d (bits : Int))), some (aD K (Cd.d (part : Int))), some (aD K (Cd.d (s_33 : (List Int))))] rfl (xg_ret (A := (aD K (Cd.d (s_33 : (List Int))))) (xe_nm 2 rfl) (wk_k (wk_n (wk_n (wk_n wk_0)))))))))))))
def m_data_piece (bits : Int) (poll : Bool) (number : Int) (part : Int) (offset : Int) (body : (List Int)) : Option (List Int) :=
  (Option.bind (guardO (PowOk 1 bits)) fun g_35 =>
  (Option.bind (modM number (1 * 2 ^ Int.toNat bits)) fun r_36 =>
  (Option.bind (if ((decide ((part : Int) = 2)) || (decide ((part : Int) = 3))) = true then
  (Option.bind (guardO (List.length [0, (if poll = true then (1 : Int) else 0), r_36, part] < 1000000)) fun g_40 =>
  (some ([0, (if poll = true then (1 : Int) else 0), r_36, part] ++ [offset]))) else
  (some [0, (if poll = true then (1 : Int) else 0), r_36, part])) fun s_39 =>
  (Option.bind (m_data_widths bits part) fun v_42 =>
  (Option.bind (m_pack v_42 s_39) fun v_43 =>
  (Option.bind (guardO (List.length v_43 + List.length body ≤ 1000000)) fun g_44 =>
  (some (v_43 ++ body))))))))
abbrev sp_data_piece (K : PySem.W.Frag) (cl_Sender : Addr) (cl_BearerError : Addr) (cl_NotValid : Addr) : Sp := SpM (fun x : (Int × Bool × Int × Int × Int × (List Int)) => [(aD K (Cd.d (x.1 : Int))), (aD K (Cd.d (x.2.1 : Bool))), (aD K (Cd.d (x.2.2.1 : Int))), (aD K (Cd.d (x.2.2.2.1 : Int))), (aD K (Cd.d (x.2.2.2.2.1 : Int))), (aD K (Cd.d (x.2.2.2.2.2 : (List Int))))]) (fun x => m_data_piece x.1 x.2.1 x.2.2.1 x.2.2.2.1 x.2.2.2.2.1 x.2.2.2.2.2) (fun x (r : (List Int)) => [none, none, none, none, none, none]) (fun _ r => (aD K (Cd.d (r : (List Int)))))
abbrev s_data_piece : Stmt := topS 14
theorem sc_data_piece : FnScope ["bits", "poll", "number", "part", "offset", "body", "values"] ["bits", "poll", "number", "part", "offset", "body"] (defScope s_data_piece) := ⟨rfl, rfl, rfl, by decide +kernel, rfl, by decide +kernel, by decide +kernel⟩
set_option maxHeartbeats 4000000 in
theorem ok_data_piece {P : Program} {w : World} {K : PySem.W.Frag} {mg : Str → Option Value} {base : Heap} {f : Addr} {cl_Sender : Addr} {cl_BearerError : Addr} {cl_NotValid : Addr} {fd : FuncData} (F : Fun K "data_piece" "data_piece" s_data_piece f fd) (T_Sender : CF_Sender K cl_Sender) (X_BearerError : ExK K mg "BearerError" cl_BearerError) (E_BearerError : ExcC K cl_BearerError) (X_NotValid : ExK K mg "NotValid" cl_NotValid) (E_NotValid : ExcC K cl_NotValid) (xm_NotValid_BearerError : PySem.W.exmOne K (.ref cl_NotValid) (.ref cl_BearerError) = some true) (xk_NotValid_NotValid : PySem.W.kitOne K (.ref cl_NotValid) (.ref cl_NotValid) = some true) (m_int : mg "int" = none) (m_list : mg "list" = none) {t_END : Tok} (g_END : mg "END" = some (.int 2 t_END)) {t_WITHIN : Tok} (g_WITHIN : mg "WITHIN" = some (.int 3 t_WITHIN)) (c_data_widths : Cal P w K mg base 1 "data_widths" (sp_data_widths K cl_Sender cl_BearerError cl_NotValid)) (c_pack : Cal P w K mg base 3 "pack" (sp_pack K cl_Sender cl_BearerError cl_NotValid)) : FnOk P w K mg base CX0 4 f fd ["bits", "poll", "number", "part", "offset", "body"] (sp_data_piece K cl_Sender cl_BearerError cl_NotValid) :=
  fn_ok (k := 3) [false, false, false, false, false, false] F sc_data_piece rfl (fun _ => rfl) (fun _ _ => rfl) fun x vs cdv A outer s H E hv hr => by
    match x, vs, hv with
    | (bits, poll, number, part, offset, body), [pa0, pa1, pa2, pa3, pa4, pa5], _ =>
      have nd := sc_data_piece.nd
      show XG _ _ [some (aD K (Cd.d (bits : Int))), some (aD K (Cd.d (poll : Bool))), some (aD K (Cd.d (number : Int))), some (aD K (Cd.d (part : Int))), some (aD K (Cd.d (offset : Int))), some (aD K (Cd.d (body : (List Int)))), none] (m_data_piece bits poll number part offset body) (oR fun r : (List Int) => [some ((aD K (Cd.d (r : (List Int))))), none, none, none, none, none, none, none])
      unfold m_data_piece
      exact (xg_st [some (aD K (Cd.d (bits : Int))), some (aD K (Cd.d (poll : Bool))), some (aD K (Cd.d (number : Int))), some (aD K (Cd.d (part : Int))), some (aD K (Cd.d (offset : Int))), some (aD K (Cd.d (body : (List Int)))), none] rfl (xg_bind fun g_35 hg_35 =>
  (xg_bind fun r_36 hr_36 =>
  (xg_asgP 6 (xe_lstD (xs := ([0, (if poll = true then (1 : Int) else 0), r_36, part] : List Int)) (xa_cons xe_int (xa_cons (xe_int1b (xe_nm 1 rfl) m_int) (xa_cons (xe_isI (xe_mod (modM_eq hr_36).1 (xe_nm 2 rfl) (xe_shl (guardO_eq hg_35) xe_int (xe_nm 0 rfl))) (modM_eq hr_36).2) (xa_cons (xe_nm 3 rfl) xa_nil)))) (Nat.le_of_ble_eq_true rfl)) fun pv_37 => (xg_st [some (aD K (Cd.d (bits : Int))), some (aD K (Cd.d (poll : Bool))), some (aD K (Cd.d (number : Int))), some (aD K (Cd.d (part : Int))), some (aD K (Cd.d (offset : Int))), some (aD K (Cd.d (body : (List Int)))), some (pin pv_37 (aLD K (List.map Cd.d ([0, (if poll = true then (1 : Int) else 0), r_36, part] : List Int))))] rfl (xg_if (N := (fun s_39 : (List Int) => [some (aD K (Cd.d (bits : Int))), some (aD K (Cd.d (poll : Bool))), some (aD K (Cd.d (number : Int))), some (aD K (Cd.d (part : Int))), some (aD K (Cd.d (offset : Int))), some (aD K (Cd.d (body : (List Int)))), some (pin pv_37 (aLD K (List.map Cd.d (s_39 : List Int))))])) (xt_w (xw_or (xt_k (xkc_eq (x := (part : Int)) (y := (2 : Int)) hr.units (xe_nm 3 rfl) (xe_gInt rfl g_END ⟨_, rfl⟩) rdD rdD)) fun _ => (xw_or1 (xt_k (xkc_eq (x := (part : Int)) (y := (3 : Int)) hr.units (xe_nm 3 rfl) (xe_gInt rfl g_WITHIN ⟨_, rfl⟩) rdD rdD))))) (fun _ => (xg_st [some (aD K (Cd.d (bits : Int))), some (aD K (Cd.d (poll : Bool))), some (aD K (Cd.d (number : Int))), some (aD K (Cd.d (part : Int))), some (aD K (Cd.d (offset : Int))), some (aD K (Cd.d (body : (List Int)))), some (pin pv_37 (aLD K (List.map Cd.d ([0, (if poll = true then (1 : Int) else 0), r_36, part] : List Int))))] rfl (xg_bind fun g_40 hg_40 =>
  (xg_expr (xe_appendDW (cv := Cd.d) (xs := [0, (if poll = true then (1 : Int) else 0), r_36, part]) (x := offset) (xe_nmV 6 rfl) (Own.slot 6 rfl) (xe_nm 4 rfl) (Own.slot 6 rfl) (sz_lt (guardO_eq hg_40))) (xg_nilS (wk_k (wk_k (wk_k (wk_k (wk_k (wk_k (wk_k wk_0)))))))))))) (fun _ => (xg_nilS (wk_k (wk_k (wk_k (wk_k (wk_k (wk_k (wk_k wk_0))))))))) (fun s_39 => (xg_freeze 6 rfl (xg_st [some (aD K (Cd.d (bits : Int))), some (aD K (Cd.d (poll : Bool))), some (aD K (Cd.d (number : Int))), some (aD K (Cd.d (part : Int))), some (aD K (Cd.d (offset : Int))), some (aD K (Cd.d (body : (List Int)))), some (aD K (Cd.d (s_39 : (List Int))))] rfl (xg_bind fun v_42 hv_42 =>
  (xg_bind fun v_43 hv_43 =>
  (xg_bind fun g_44 hg_44 =>
  (xg_ret (A := (aD K (Cd.d ((v_43 ++ body) : (List Int))))) (xe_frz (xc_cat (xs := v_43) (ys := body) (xe_callX (xx := (v_42, s_39)) c_pack (hr.mono (by decide)) hv_43 (xx_of (xa_cons (xe_callX (xx := (bits, part)) c_data_widths (hr.mono (by decide)) hv_42 (xx_of (xa_cons (xe_nm 0 rfl) (xa_cons (xe_nm 3 rfl) xa_nil))) rfl rfl Fill.nil) (xa_cons (xe_nm 6 rfl) xa_nil))) rfl rfl Fill.nil) (xe_list (xe_nm 5 rfl) rlD m_list) rmD rmL (sz_of (guardO_eq hg_44)))) (wk_k (wk_n (wk_n (wk_n (wk_n (wk_n (wk_n (wk_n wk_0)))))))))))))))))))))
def m_part_of (packet : (List Int)) (v_start : Int) (stop : Int) : Option Int :=
  (if ((decide ((v_start : Int) = 0)) && (decide ((stop : Int) = ((List.length packet : Nat) : Int)))) = true then
  (some 0) else
  (if (decide ((v_start : Int) = 0)) = true then
  (some 1) else
  (if (decide ((stop : Int) = ((List.length packet : Nat) : Int))) = true then
  (some 2) else
  (some 3))))
abbrev sp_part_of (K : PySem.W.Frag) (cl_Sender : Addr) (cl_BearerError : Addr) (cl_NotValid : Addr) : Sp := SpM (fun x : ((List Int) × Int × Int) => [(aD K (Cd.d (x.1 : (List Int)))), (aD K (Cd.d (x.2.1 : Int))), (aD K (Cd.d (x.2.2 : Int)))]) (fun x => m_part_of x.1 x.2.1 x.2.2) (fun x (r : Int) => [none, none, none]) (fun _ r => (aD K (Cd.d (r : Int))))
abbrev s_part_of : Stmt := topS 15
theorem sc_part_of : FnScope ["packet", "start", "stop"] ["packet", "start", "stop"] (defScope s_part_of) := ⟨rfl, rfl, rfl, by decide +kernel, rfl, by decide +kernel, by decide +kernel⟩
set_option maxHeartbeats 4000000 in
theorem ok_part_of {P : Program} {w : World} {K : PySem.W.Frag} {mg : Str → Option Value} {base : Heap} {f : Addr} {cl_Sender : Addr} {cl_BearerError : Addr} {cl_NotValid : Addr} {fd : FuncData} (F : Fun K "part_of" "part_of" s_part_of f fd) (T_Sender : CF_Sender K cl_Sender) (X_BearerError : ExK K mg "BearerError" cl_BearerError) (E_BearerError : ExcC K cl_BearerError) (X_NotValid : ExK K mg "NotValid" cl_NotValid) (E_NotValid : ExcC K cl_NotValid) (xm_NotValid_BearerError : PySem.W.exmOne K (.ref cl_NotValid) (.ref cl_BearerError) = some true) (xk_NotValid_NotValid : PySem.W.kitOne K (.ref cl_NotValid) (.ref cl_NotValid) = some true) (m_len : mg "len" = none) {t_BEGINNING : Tok} (g_BEGINNING : mg "BEGINNING" = some (.int 1 t_BEGINNING)) {t_END : Tok} (g_END : mg "END" = some (.int 2 t_END)) {t_WHOLE : Tok} (g_WHOLE : mg "WHOLE" = some (.int 0 t_WHOLE)) {t_WITHIN : Tok} (g_WITHIN : mg "WITHIN" = some (.int 3 t_WITHIN)) : FnOk P w K mg base CX0 1 f fd ["packet", "start", "stop"] (sp_part_of K cl_Sender cl_BearerError cl_NotValid) :=
  fn_ok (k := 0) [false, false, false] F sc_part_of rfl (fun _ => rfl) (fun _ _ => rfl) fun x vs cdv A outer s H E hv hr => by
    match x, vs, hv with
    | (packet, v_start, stop), [pa0, pa1, pa2], _ =>
      have nd := sc_part_of.nd
      show XG _ _ [some (aD K (Cd.d (packet : (List Int)))), some (aD K (Cd.d (v_start : Int))), some (aD K (Cd.d (stop : Int)))] (m_part_of packet v_start stop) (oR fun r : Int => [some ((aD K (Cd.d (r : Int)))), none, none, none])
      unfold m_part_of
      exact (xg_st [some (aD K (Cd.d (packet : (List Int)))), some (aD K (Cd.d (v_start : Int))), some (aD K (Cd.d (stop : Int)))] rfl (xg_ifR (u := []) (xt_w (xw_and (xt_k (xkc_eq (x := (v_start : Int)) (y := (0 : Int)) hr.units (xe_nm 1 rfl) xe_int rdD rdD)) fun _ => (xw_and1 (xt_k (xkc_eq (x := (stop : Int)) (y := (((List.length packet : Nat) : Int) : Int)) hr.units (xe_nm 2 rfl) (xc_len (xs := packet) (xe_nm 0 rfl) rlD m_len) rdD rdD))))) (fun _ => (xg_st [some (aD K (Cd.d (packet : (List Int)))), some (aD K (Cd.d (v_start : Int))), some (aD K (Cd.d (stop : Int)))] rfl (xg_ret (A := (aD K (Cd.d (0 : Int)))) (xe_gInt rfl g_WHOLE ⟨_, rfl⟩) (wk_k (wk_n (wk_n (wk_n wk_0))))))) (fun _ => (xg_st [some (aD K (Cd.d (packet : (List Int)))), some (aD K (Cd.d (v_start : Int))), some (aD K (Cd.d (stop : Int)))] rfl (xg_ifR (u := []) (xt_k (xkc_eq (x := (v_start : Int)) (y := (0 : Int)) hr.units (xe_nm 1 rfl) xe_int rdD rdD)) (fun _ => (xg_st [some (aD K (Cd.d (packet : (List Int)))), some (aD K (Cd.d (v_start : Int))), some (aD K (Cd.d (stop : Int)))] rfl (xg_ret (A := (aD K (Cd.d (1 : Int)))) (xe_gInt rfl g_BEGINNING ⟨_, rfl⟩) (wk_k (wk_n (wk_n (wk_n wk_0))))))) (fun _ => (xg_st [some (aD K (Cd.d (packet : (List Int)))), some (aD K (Cd.d (v_start : Int))), some (aD K (Cd.d (stop : Int)))] rfl (xg_ifR (u := []) (xt_k (xkc_eq (x := (stop : Int)) (y := (((List.length packet : Nat) : Int) : Int)) hr.units (xe_nm 2 rfl) (xc_len (xs := packet) (xe_nm 0 rfl) rlD m_len) rdD rdD)) (fun _ => (xg_st [some (aD K (Cd.d (packet : (List Int)))), some (aD K (Cd.d (v_start : Int))), some (aD K (Cd.d (stop : Int)))] rfl (xg_ret (A := (aD K (Cd.d (2 : Int)))) (xe_gInt rfl g_END ⟨_, rfl⟩) (wk_k (wk_n (wk_n (wk_n wk_0))))))) (fun _ => (xg_st [some (aD K (Cd.d (packet : (List Int)))), some (aD K (Cd.d (v_start : Int))), some (aD K (Cd.d (stop : Int)))] rfl (xg_ret (A := (aD K (Cd.d (3 : Int)))) (xe_gInt rfl g_WITHIN ⟨_, rfl⟩) (wk_k (wk_n (wk_n (wk_n wk_0)))))))))))))))
def m_cut (bits : Int) (poll : Bool) (number : Int) (packet : (List Int)) (v_start : Int) (stop : Int) (room : Int) : Option (Option ((List Int) × Int)) :=
  (Option.bind (guardO (RgOk stop v_start (-1))) fun g_45 =>
  (thenR (foldB (fun (s_46 : Unit) (v_end_47 : Int) =>
  (Option.bind (m_part_of packet v_start v_end_47) fun v_52 =>
  (Option.bind (m_data_widths bits v_52) fun v_53 =>
  (Option.bind (m_field_bytes v_53) fun v_54 =>
  (if (decide (((v_54 + v_end_47) - v_start) ≤ room)) = true then
  Option.map Sum.inl (Option.bind (m_data_piece bits poll number v_52 v_start (cutL packet (some v_start) (some v_end_47))) fun v_55 =>
  (some (some ((v_55 : (List Int)), (v_end_47 : Int))))) else
  (some (Sum.inr ()))))))) (rangeC stop (-1) (rgN stop v_start (-1))) ()) (fun s_56 =>
  (some (none : (Option ((List Int) × Int))))) id))
abbrev sp_cut (K : PySem.W.Frag) (cl_Sender : Addr) (cl_BearerError : Addr) (cl_NotValid : Addr) : Sp := SpM (fun x : (Int × Bool × Int × (List Int) × Int × Int × Int) => [(aD K (Cd.d (x.1 : Int))), (aD K (Cd.d (x.2.1 : Bool))), (aD K (Cd.d (x.2.2.1 : Int))), (aD K (Cd.d (x.2.2.2.1 : (List Int)))), (aD K (Cd.d (x.2.2.2.2.1 : Int))), (aD K (Cd.d (x.2.2.2.2.2.1 : Int))), (aD K (Cd.d (x.2.2.2.2.2.2 : Int)))]) (fun x => m_cut x.1 x.2.1 x.2.2.1 x.2.2.2.1 x.2.2.2.2.1 x.2.2.2.2.2.1 x.2.2.2.2.2.2) (fun x (r : (Option ((List Int) × Int))) => [none, none, none, none, none, none, none]) (fun _ r => (aD K (Cd.d (r : (Option ((List Int) × Int))))))
abbrev s_cut : Stmt := topS 16
theorem sc_cut : FnScope ["bits", "poll", "number", "packet", "start", "stop", "room", "end", "part"] ["bits", "poll", "number", "packet", "start", "stop", "room"] (defScope s_cut) := ⟨rfl, rfl, rfl, by decide +kernel, rfl, by decide +kernel, by decide +kernel⟩
set_option maxHeartbeats 4000000 in
theorem ok_cut {P : Program} {w : World} {K : PySem.W.Frag} {mg : Str → Option Value} {base : Heap} {f : Addr} {cl_Sender : Addr} {cl_BearerError : Addr} {cl_NotValid : Addr} {fd : FuncData} (F : Fun K "cut" "cut" s_cut f fd) (T_Sender : CF_Sender K cl_Sender) (X_BearerError : ExK K mg "BearerError" cl_BearerError) (E_BearerError : ExcC K cl_BearerError) (X_NotValid : ExK K mg "NotValid" cl_NotValid) (E_NotValid : ExcC K cl_NotValid) (xm_NotValid_BearerError : PySem.W.exmOne K (.ref cl_NotValid) (.ref cl_BearerError) = some true) (xk_NotValid_NotValid : PySem.W.kitOne K (.ref cl_NotValid) (.ref cl_NotValid) = some true) (m_range : mg "range" = none) (c_data_piece : Cal P w K mg base 4 "data_piece" (sp_data_piece K cl_Sender cl_BearerError cl_NotValid)) (c_data_widths : Cal P w K mg base 1 "data_widths" (sp_data_widths K cl_Sender cl_BearerError cl_NotValid)) (c_field_bytes : Cal P w K mg base 2 "field_bytes" (sp_field_bytes K cl_Sender cl_BearerError cl_NotValid)) (c_part_of : Cal P w K mg base 1 "part_of" (sp_part_of K cl_Sender cl_BearerError cl_NotValid)) : FnOk P w K mg base CX0 5 f fd ["bits", "poll", "number", "packet", "start", "stop", "room"] (sp_cut K cl_Sender cl_BearerError cl_NotValid) :=
  fn_ok (k := 4) [false, false, false, false, false, false, false] F sc_cut rfl (fun _ => rfl) (fun _ _ => rfl) fun x vs cdv A outer s H E hv hr => by
    match x, vs, hv with
    | (bits, poll, number, packet, v_start, stop, room), [pa0, pa1, pa2, pa3, pa4, pa5, pa6], _ =>
      have nd := sc_cut.nd
      show XG _ _ [some (aD K (Cd.d (bits : Int))), some (aD K (Cd.d (poll : Bool))), some (aD K (Cd.d (number : Int))), some (aD K (Cd.d (packet : (List Int)))), some (aD K (Cd.d (v_start : Int))), some (aD K (Cd.d (stop : Int))), some (aD K (Cd.d (room : Int))), none, none] (m_cut bits poll number packet v_start stop room) (oR fun r : (Option ((List Int) × Int)) => [some ((aD K (Cd.d (r : (Option ((List Int) × Int)))))), none, none, none, none, none, none, none, none, none])
      unfold m_cut
      exact (xg_st [some (aD K (Cd.d (bits : Int))), some (aD K (Cd.d (poll : Bool))), some (aD K (Cd.d (number : Int))), some (aD K (Cd.d (packet : (List Int)))), some (aD K (Cd.d (v_start : Int))), some (aD K (Cd.d (stop : Int))), some (aD K (Cd.d (room : Int))), none, none] rfl (xg_bind fun g_45 hg_45 =>
  (xg_forR (N := (fun s_46 : Unit => [some (aD K (Cd.d (bits : Int))), some (aD K (Cd.d (poll : Bool))), some (aD K (Cd.d (number : Int))), some (aD K (Cd.d (packet : (List Int)))), some (aD K (Cd.d (v_start : Int))), some (aD K (Cd.d (stop : Int))), some (aD K (Cd.d (room : Int))), none, none])) PassesOwn.never rfl (xi_range3 (by exact rfl) m_range (guardO_eq hg_45) (xe_nm 5 rfl) (xe_nm 4 rfl) (xe_neg xe_int)) (wk_k (wk_k (wk_k (wk_k (wk_k (wk_k (wk_k (wk_n (wk_n wk_0))))))))) (fun _ => trivial) (fun _ _ => (xp_nm 7)) (fun v_end_47 s_46 => (xg_st [some (aD K (Cd.d (bits : Int))), some (aD K (Cd.d (poll : Bool))), some (aD K (Cd.d (number : Int))), some (aD K (Cd.d (packet : (List Int)))), some (aD K (Cd.d (v_start : Int))), some (aD K (Cd.d (stop : Int))), some (aD K (Cd.d (room : Int))), some (aD K (Cd.d (v_end_47 : Int))), none] rfl (xg_bind fun v_52 hv_52 =>
  (xg_asg 8 (A := aD K (Cd.d (v_52 : Int))) (xe_callX (xx := (packet, v_start, v_end_47)) c_part_of (hr.mono (by decide)) hv_52 (xx_of (xa_cons (xe_nm 3 rfl) (xa_cons (xe_nm 4 rfl) (xa_cons (xe_nm 7 rfl) xa_nil)))) rfl rfl Fill.nil) (xg_st [some (aD K (Cd.d (bits : Int))), some (aD K (Cd.d (poll : Bool))), some (aD K (Cd.d (number : Int))), some (aD K (Cd.d (packet : (List Int)))), some (aD K (Cd.d (v_start : Int))), some (aD K (Cd.d (stop : Int))), some (aD K (Cd.d (room : Int))), some (aD K (Cd.d (v_end_47 : Int))), some (aD K (Cd.d (v_52 : Int)))] rfl (xg_bind fun v_53 hv_53 =>
  (xg_bind fun v_54 hv_54 =>
  (xg_ifRB (u := []) (xt_k (xk_le (xe_sub (xe_add (xe_callX (xx := v_53) c_field_bytes (hr.mono (by decide)) hv_54 (xx_of (xa_cons (xe_callX (xx := (bits, v_52)) c_data_widths (hr.mono (by decide)) hv_53 (xx_of (xa_cons (xe_nm 0 rfl) (xa_cons (xe_nm 8 rfl) xa_nil))) rfl rfl Fill.nil) xa_nil)) rfl rfl Fill.nil) (xe_nm 7 rfl)) (xe_nm 4 rfl)) (xe_nm 6 rfl))) (fun _ => (xg_st [some (aD K (Cd.d (bits : Int))), some (aD K (Cd.d (poll : Bool))), some (aD K (Cd.d (number : Int))), some (aD K (Cd.d (packet : (List Int)))), some (aD K (Cd.d (v_start : Int))), some (aD K (Cd.d (stop : Int))), some (aD K (Cd.d (room : Int))), some (aD K (Cd.d (v_end_47 : Int))), some (aD K (Cd.d (v_52 : Int)))] rfl (xg_bind fun v_55 hv_55 =>
  (xg_ret (A := (aD K (Cd.d ((some ((v_55 : (List Int)), (v_end_47 : Int))) : (Option ((List Int) × Int)))))) (xe_is (B := aD K (Cd.d (some ((v_55 : (List Int)), (v_end_47 : Int)) : (Option ((List Int) × Int))))) (xe_tup (ds := [Cd.d (v_55 : (List Int)), Cd.d (v_end_47 : Int)]) (xa_cons (xe_callX (xx := (bits, poll, number, v_52, v_start, (cutL packet (some v_start) (some v_end_47)))) c_data_piece (hr.mono (by decide)) hv_55 (xx_of (xa_cons (xe_nm 0 rfl) (xa_cons (xe_nm 1 rfl) (xa_cons (xe_nm 2 rfl) (xa_cons (xe_nm 8 rfl) (xa_cons (xe_nm 4 rfl) (xa_cons (xe_frz (xc_slice (xs := packet) (i := (some v_start)) (j := (some v_end_47)) (xe_nm 3 rfl) (xo_some (xe_nm 4 rfl)) (xo_some (xe_nm 7 rfl)) rlD)) xa_nil))))))) rfl rfl Fill.nil) (xa_cons (xe_nm 7 rfl) xa_nil)) (Nat.le_of_ble_eq_true rfl)) rfl) (wk_k (wk_n (wk_n (wk_n (wk_n (wk_n (wk_n (wk_n (wk_n (wk_n wk_0)))))))))))))) (fun _ => (xg_nilB (wk_k (wk_k (wk_k (wk_k (wk_k (wk_k (wk_k (wk_n (wk_n wk_0))))))))))))))))))) (fun s_56 => (xg_st [some (aD K (Cd.d (bits : Int))), some (aD K (Cd.d (poll : Bool))), some (aD K (Cd.d (number : Int))), some (aD K (Cd.d (packet : (List Int)))), some (aD K (Cd.d (v_start : Int))), some (aD K (Cd.d (stop : Int))), some (aD K (Cd.d (room : Int))), none, none] rfl (xg_ret (A := (aD K (Cd.d ((none : (Option ((List Int) × Int))) : (Option ((List Int) × Int)))))) (xe_is (B := aD K (Cd.d (none : (Option ((List Int) × Int))))) xe_non rfl) (wk_k (wk_n (wk_n (wk_n (wk_n (wk_n (wk_n (wk_n (wk_n (wk_n wk_0))))))))))))))))
def m_is_packet (packet : (List Int)) : Option Bool :=
  (if ((!true) || (!((decide (1 ≤ ((List.length packet : Nat) : Int))) && (decide (((List.length packet : Nat) : Int) ≤ 200))))) = true then
  (some false) else
  (thenR (foldB (fun (s_57 : Unit) (byte_58 : Int) =>
  (if ((!true) || (false || (!((decide (0 ≤ byte_58)) && (decide (byte_58 ≤ 255)))))) = true then
  Option.map Sum.inl (some false) else
  (some (Sum.inr ())))) packet ()) (fun s_59 =>
  (some true)) id))
abbrev sp_is_packet (K : PySem.W.Frag) (cl_Sender : Addr) (cl_BearerError : Addr) (cl_NotValid : Addr) : Sp := SpM (fun x : (List Int) => [(aD K (Cd.d (x : (List Int))))]) (fun x => m_is_packet x) (fun x (r : Bool) => [none]) (fun _ r => (aD K (Cd.d (r : Bool))))
abbrev s_is_packet : Stmt := topS 21
theorem sc_is_packet : FnScope ["packet", "byte"] ["packet"] (defScope s_is_packet) := ⟨rfl, rfl, rfl, by decide +kernel, rfl, by decide +kernel, by decide +kernel⟩
set_option maxHeartbeats 4000000 in
theorem ok_is_packet {P : Program} {w : World} {K : PySem.W.Frag} {mg : Str → Option Value} {base : Heap} {f : Addr} {cl_Sender : Addr} {cl_BearerError : Addr} {cl_NotValid : Addr} {fd : FuncData} (F : Fun K "is_packet" "is_packet" s_is_packet f fd) (T_Sender : CF_Sender K cl_Sender) (X_BearerError : ExK K mg "BearerError" cl_BearerError) (E_BearerError : ExcC K cl_BearerError) (X_NotValid : ExK K mg "NotValid" cl_NotValid) (E_NotValid : ExcC K cl_NotValid) (xm_NotValid_BearerError : PySem.W.exmOne K (.ref cl_NotValid) (.ref cl_BearerError) = some true) (xk_NotValid_NotValid : PySem.W.kitOne K (.ref cl_NotValid) (.ref cl_NotValid) = some true) (m_bool : mg "bool" = none) (m_int : mg "int" = none) (m_isinstance : mg "isinstance" = none) (m_len : mg "len" = none) (m_list : mg "list" = none) {t_MOST_BYTES : Tok} (g_MOST_BYTES : mg "MOST_BYTES" = some (.int 200 t_MOST_BYTES)) : FnOk P w K mg base CX0 1 f fd ["packet"] (sp_is_packet K cl_Sender cl_BearerError cl_NotValid) :=
  fn_ok (k := 0) [false] F sc_is_packet rfl (fun _ => rfl) (fun _ _ => rfl) fun x vs cdv A outer s H E hv hr => by
    match x, vs, hv with
    | packet, [pa0], _ =>
      have nd := sc_is_packet.nd
      show XG _ _ [some (aD K (Cd.d (packet : (List Int)))), none] (m_is_packet packet) (oR fun r : Bool => [some ((aD K (Cd.d (r : Bool)))), none, none])
      unfold m_is_packet
      exact (xg_st [some (aD K (Cd.d (packet : (List Int)))), none] rfl (xg_ifR (u := []) (xt_w (xw_or (xt_not (xt_v (xe_isi (T := "list") (xe_nm 0 rfl) (xe_ty (ty := "list") m_list (by decide +kernel)) rty_data (by decide +kernel) m_isinstance))) fun _ => (xw_or1 (xt_not (xt_k (xk_chain op_le op_le rfl xe_int (xc_len (xs := packet) (xe_nm 0 rfl) rlD m_len) (fun _ => (xe_gInt (by exact rfl) g_MOST_BYTES (by exact ⟨_, rfl⟩))) rfl)))))) (fun _ => (xg_st [some (aD K (Cd.d (packet : (List Int)))), none] rfl (xg_ret (A := (aD K (Cd.d (false : Bool)))) xe_bl (wk_k (wk_n (wk_n wk_0)))))) (fun _ => (xg_st [some (aD K (Cd.d (packet : (List Int)))), none] rfl (xg_forR (N := (fun s_57 : Unit => [some (aD K (Cd.d (packet : (List Int)))), none])) PassesOwn.never rfl (xi_list (xs := packet) (cv := Cd.d) (xe_nm 0 rfl)) (wk_k (wk_n wk_0)) (fun _ => trivial) (fun _ _ => (xp_nm 1)) (fun byte_58 s_57 => (xg_st [some (aD K (Cd.d (packet : (List Int)))), some (aD K (Cd.d (byte_58 : Int)))] rfl (xg_ifRB (u := []) (xt_w (xw_or (xt_not (xt_v (xe_isi (T := "int") (xe_nm 1 rfl) (xe_ty (ty := "int") m_int (by decide +kernel)) rty_data (by decide +kernel) m_isinstance))) fun _ => (xw_or (xt_v (xe_isi (T := "int") (xe_nm 1 rfl) (xe_ty (ty := "bool") m_bool (by decide +kernel)) rty_data (by decide +kernel) m_isinstance)) fun _ => (xw_or1 (xt_not (xt_k (xk_chain op_le op_le rfl xe_int (xe_nm 1 rfl) (fun _ => xe_int) rfl))))))) (fun _ => (xg_st [some (aD K (Cd.d (packet : (List Int)))), some (aD K (Cd.d (byte_58 : Int)))] rfl (xg_ret (A := (aD K (Cd.d (false : Bool)))) xe_bl (wk_k (wk_n (wk_n wk_0)))))) (fun _ => (xg_nilB (wk_k (wk_n wk_0))))))) (fun s_59 => (xg_st [some (aD K (Cd.d (packet : (List Int)))), none] rfl (xg_ret (A := (aD K (Cd.d (true : Bool)))) xe_bl (wk_k (wk_n (wk_n wk_0)))))))))))
def m_Sender___init__ (bits : Int) (window : Int) : Option M_Sender :=
  (Option.bind ((if (!((decide (3 ≤ bits)) && (decide (bits ≤ 6)))) = true then some true else (Option.bind (guardO (PowOk 1 (bits - 1))) fun g_61 => (some (!((decide (1 ≤ window)) && (decide (window ≤ (1 * 2 ^ Int.toNat (bits - 1)))))))))) fun c_62 =>
  (Option.bind (if c_62 = true then
  none else
  (some ())) fun s_63 =>
  (some (M_Sender.mk bits window 0 0 ([] : (List (List Int))) ([] : (List (Int × (List Int)))) 0 ([] : (List (T3 Int Int Int))) 0))))
abbrev sp_Sender___init__ (K : PySem.W.Frag) (cl_Sender : Addr) (cl_BearerError : Addr) (cl_NotValid : Addr) : Sp := SpM (fun x : (Int × Int) => [aObj cl_Sender [] [], (aD K (Cd.d (x.1 : Int))), (aD K (Cd.d (x.2 : Int)))]) (fun x => m_Sender___init__ x.1 x.2) (fun x (r : M_Sender) => [some (o_Sender K cl_Sender cl_BearerError cl_NotValid r), none, none]) (fun _ r => aD K .none)
abbrev s_Sender___init__ : Stmt := inClass (topS 22) 0
theorem sc_Sender___init__ : FnScope ["self", "bits", "window"] ["self", "bits", "window"] (defScope s_Sender___init__) := ⟨rfl, rfl, rfl, by decide +kernel, rfl, by decide +kernel, by decide +kernel⟩
set_option maxHeartbeats 4000000 in
theorem ok_Sender___init__ {P : Program} {w : World} {K : PySem.W.Frag} {mg : Str → Option Value} {base : Heap} {f : Addr} {cl_Sender : Addr} {cl_BearerError : Addr} {cl_NotValid : Addr} {fd : FuncData} (F : Fun K "__init__" "Sender.__init__" s_Sender___init__ f fd) (T_Sender : CF_Sender K cl_Sender) (X_BearerError : ExK K mg "BearerError" cl_BearerError) (E_BearerError : ExcC K cl_BearerError) (X_NotValid : ExK K mg "NotValid" cl_NotValid) (E_NotValid : ExcC K cl_NotValid) (xm_NotValid_BearerError : PySem.W.exmOne K (.ref cl_NotValid) (.ref cl_BearerError) = some true) (xk_NotValid_NotValid : PySem.W.kitOne K (.ref cl_NotValid) (.ref cl_NotValid) = some true)  {t_LEAST_BITS : Tok} (g_LEAST_BITS : mg "LEAST_BITS" = some (.int 3 t_LEAST_BITS)) {t_MOST_BITS : Tok} (g_MOST_BITS : mg "MOST_BITS" = some (.int 6 t_MOST_BITS)) : FnOk P w K mg base CX0 1 f fd ["self", "bits", "window"] (sp_Sender___init__ K cl_Sender cl_BearerError cl_NotValid) :=
  fn_okN (k := 0) [true, false, false] F sc_Sender___init__ rfl (fun _ => rfl) (fun _ _ => rfl) fun x vs cdv A outer s H E hv hr => by
    match x, vs, hv with
    | (bits, window), [pa0, pa1, pa2], _ =>
      have nd := sc_Sender___init__.nd
      show XG _ _ [some (pin pa0 (aObj cl_Sender [] [])), some (aD K (Cd.d (bits : Int))), some (aD K (Cd.d (window : Int)))] (m_Sender___init__ bits window) (oS fun r : M_Sender => [some (pin pa0 (o_Sender K cl_Sender cl_BearerError cl_NotValid r)), none, none])
      unfold m_Sender___init__
      exact (xg_st [some (pin pa0 (aObj cl_Sender [] [])), some (aD K (Cd.d (bits : Int))), some (aD K (Cd.d (window : Int)))] rfl (xg_bind fun c_62 hc_62 =>
  (xg_if (N := (fun s_63 : Unit => [some (pin pa0 (aObj cl_Sender [] [])), some (aD K (Cd.d (bits : Int))), some (aD K (Cd.d (window : Int)))])) (xt_w (xw_orM (xt_not (xt_k (xk_chain op_le op_le rfl (xe_gInt (by exact rfl) g_LEAST_BITS (by exact ⟨_, rfl⟩)) (xe_nm 1 rfl) (fun _ => (xe_gInt (by exact rfl) g_MOST_BITS (by exact ⟨_, rfl⟩))) rfl))) (xwm_or1 (xtm_bind fun g_61 hg_61 => (xtm_some (xt_not (xt_k (xk_chain op_le op_le rfl xe_int (xe_nm 2 rfl) (fun _ => (xe_shl (guardO_eq hg_61) xe_int (xe_sub (xe_nm 1 rfl) xe_int))) rfl)))))) hc_62)) (fun _ => (xg_st [some (pin pa0 (aObj cl_Sender [] [])), some (aD K (Cd.d (bits : Int))), some (aD K (Cd.d (window : Int)))] rfl xg_none)) (fun _ => (xg_nilS (wk_k (wk_k (wk_k wk_0))))) (fun s_63 => (xg_st [some (pin pa0 (aObj cl_Sender [] [])), some (aD K (Cd.d (bits : Int))), some (aD K (Cd.d (window : Int)))] rfl (xg_fldN (B := (aD K (Cd.d (bits : Int)))) (xe_nm 1 rfl) (xe_nmV 0 rfl) (Own.slot 0 rfl) T_Sender.cl T_Sender.n_bits (by decide +kernel) (xg_st [some (pin pa0 (aObj cl_Sender ["bits"] [(aD K (Cd.d (bits : Int)))])), some (aD K (Cd.d (bits : Int))), some (aD K (Cd.d (window : Int)))] rfl (xg_fldN (B := (aD K (Cd.d (window : Int)))) (xe_nm 2 rfl) (xe_nmV 0 rfl) (Own.slot 0 rfl) T_Sender.cl T_Sender.n_window (by decide +kernel) (xg_st [some (pin pa0 (aObj cl_Sender ["bits", "window"] [(aD K (Cd.d (bits : Int))), (aD K (Cd.d (window : Int)))])), some (aD K (Cd.d (bits : Int))), some (aD K (Cd.d (window : Int)))] rfl (xg_fldN (B := (aD K (Cd.d (0 : Int)))) xe_int (xe_nmV 0 rfl) (Own.slot 0 rfl) T_Sender.cl T_Sender.n_low (by decide +kernel) (xg_st [some (pin pa0 (aObj cl_Sender ["bits", "window", "low"] [(aD K (Cd.d (bits : Int))), (aD K (Cd.d (window : Int))), (aD K (Cd.d (0 : Int)))])), some (aD K (Cd.d (bits : Int))), some (aD K (Cd.d (window : Int)))] rfl (xg_fldN (B := (aD K (Cd.d (0 : Int)))) xe_int (xe_nmV 0 rfl) (Own.slot 0 rfl) T_Sender.cl T_Sender.n_next (by decide +kernel) (xg_st [some (pin pa0 (aObj cl_Sender ["bits", "window", "low", "next"] [(aD K (Cd.d (bits : Int))), (aD K (Cd.d (window : Int))), (aD K (Cd.d (0 : Int))), (aD K (Cd.d (0 : Int)))])), some (aD K (Cd.d (bits : Int))), some (aD K (Cd.d (window : Int)))] rfl (xg_fldN (B := (aLD K (List.map Cd.d (([] : (List (List Int))) : List (List Int))))) (xe_is (B := (aLD K (List.map Cd.d (([] : (List (List Int))) : List (List Int))))) (xe_lst xa_nil (Nat.le_of_ble_eq_true rfl)) rfl) (xe_nmV 0 rfl) (Own.slot 0 rfl) T_Sender.cl T_Sender.n_queue (by decide +kernel) (xg_st [some (pin pa0 (aObj cl_Sender ["bits", "window", "low", "next", "queue"] [(aD K (Cd.d (bits : Int))), (aD K (Cd.d (window : Int))), (aD K (Cd.d (0 : Int))), (aD K (Cd.d (0 : Int))), (aLD K (List.map Cd.d (([] : (List (List Int))) : List (List Int))))])), some (aD K (Cd.d (bits : Int))), some (aD K (Cd.d (window : Int)))] rfl (xg_fldN (B := (aDK K (dD (([] : (List (Int × (List Int)))) : (List (Int × (List Int))))))) (xe_is (B := (aDK K (dD (([] : (List (Int × (List Int)))) : (List (Int × (List Int))))))) xe_dnew rfl) (xe_nmV 0 rfl) (Own.slot 0 rfl) T_Sender.cl T_Sender.n_kept (by decide +kernel) (xg_st [some (pin pa0 (aObj cl_Sender ["bits", "window", "low", "next", "queue", "kept"] [(aD K (Cd.d (bits : Int))), (aD K (Cd.d (window : Int))), (aD K (Cd.d (0 : Int))), (aD K (Cd.d (0 : Int))), (aLD K (List.map Cd.d (([] : (List (List Int))) : List (List Int)))), (aDK K (dD (([] : (List (Int × (List Int)))) : (List (Int × (List Int))))))])), some (aD K (Cd.d (bits : Int))), some (aD K (Cd.d (window : Int)))] rfl (xg_fldN (B := (aD K (Cd.d (0 : Int)))) xe_int (xe_nmV 0 rfl) (Own.slot 0 rfl) T_Sender.cl T_Sender.n_sent (by decide +kernel) (xg_st [some (pin pa0 (aObj cl_Sender ["bits", "window", "low", "next", "queue", "kept", "sent"] [(aD K (Cd.d (bits : Int))), (aD K (Cd.d (window : Int))), (aD K (Cd.d (0 : Int))), (aD K (Cd.d (0 : Int))), (aLD K (List.map Cd.d (([] : (List (List Int))) : List (List Int)))), (aDK K (dD (([] : (List (Int × (List Int)))) : (List (Int × (List Int)))))), (aD K (Cd.d (0 : Int)))])), some (aD K (Cd.d (bits : Int))), some (aD K (Cd.d (window : Int)))] rfl (xg_fldN (B := (aLD K (List.map Cd.d (([] : (List (T3 Int Int Int))) : List (T3 Int Int Int))))) (xe_is (B := (aLD K (List.map Cd.d (([] : (List (T3 Int Int Int))) : List (T3 Int Int Int))))) (xe_lst xa_nil (Nat.le_of_ble_eq_true rfl)) rfl) (xe_nmV 0 rfl) (Own.slot 0 rfl) T_Sender.cl T_Sender.n_again (by decide +kernel) (xg_st [some (pin pa0 (aObj cl_Sender ["bits", "window", "low", "next", "queue", "kept", "sent", "again"] [(aD K (Cd.d (bits : Int))), (aD K (Cd.d (window : Int))), (aD K (Cd.d (0 : Int))), (aD K (Cd.d (0 : Int))), (aLD K (List.map Cd.d (([] : (List (List Int))) : List (List Int)))), (aDK K (dD (([] : (List (Int × (List Int)))) : (List (Int × (List Int)))))), (aD K (Cd.d (0 : Int))), (aLD K (List.map Cd.d (([] : (List (T3 Int Int Int))) : List (T3 Int Int Int))))])), some (aD K (Cd.d (bits : Int))), some (aD K (Cd.d (window : Int)))] rfl (xg_fldN (B := (aD K (Cd.d (0 : Int)))) xe_int (xe_nmV 0 rfl) (Own.slot 0 rfl) T_Sender.cl T_Sender.n_silent (by decide +kernel) (xg_nilS (wk_k (wk_n (wk_n wk_0))))))))))))))))))))))))))
def m_Sender_put (self : M_Sender) (packet : (List Int)) : Option M_Sender :=
  (Option.bind (m_is_packet packet) fun v_64 =>
  (Option.bind (if (!v_64) = true then
  none else
  (some ())) fun s_65 =>
  (Option.bind (guardO (List.length self.queue < 1000000)) fun g_67 =>
  (some { self with queue := (self.queue ++ [packet]) }))))
abbrev sp_Sender_put (K : PySem.W.Frag) (cl_Sender : Addr) (cl_BearerError : Addr) (cl_NotValid : Addr) : Sp := SpM (fun x : (M_Sender × (List Int)) => [(o_Sender K cl_Sender cl_BearerError cl_NotValid x.1), (aD K (Cd.d (x.2 : (List Int))))]) (fun x => m_Sender_put x.1 x.2) (fun x (r : M_Sender) => [some (o_Sender K cl_Sender cl_BearerError cl_NotValid r), none]) (fun _ r => aD K .none)
abbrev s_Sender_put : Stmt := inClass (topS 22) 1
theorem sc_Sender_put : FnScope ["self", "packet"] ["self", "packet"] (defScope s_Sender_put) := ⟨rfl, rfl, rfl, by decide +kernel, rfl, by decide +kernel, by decide +kernel⟩
set_option maxHeartbeats 4000000 in
theorem ok_Sender_put {P : Program} {w : World} {K : PySem.W.Frag} {mg : Str → Option Value} {base : Heap} {f : Addr} {cl_Sender : Addr} {cl_BearerError : Addr} {cl_NotValid : Addr} {fd : FuncData} (F : Fun K "put" "Sender.put" s_Sender_put f fd) (T_Sender : CF_Sender K cl_Sender) (X_BearerError : ExK K mg "BearerError" cl_BearerError) (E_BearerError : ExcC K cl_BearerError) (X_NotValid : ExK K mg "NotValid" cl_NotValid) (E_NotValid : ExcC K cl_NotValid) (xm_NotValid_BearerError : PySem.W.exmOne K (.ref cl_NotValid) (.ref cl_BearerError) = some true) (xk_NotValid_NotValid : PySem.W.kitOne K (.ref cl_NotValid) (.ref cl_NotValid) = some true) (m_list : mg "list" = none) (c_is_packet : Cal P w K mg base 1 "is_packet" (sp_is_packet K cl_Sender cl_BearerError cl_NotValid)) : FnOk P w K mg base CX0 2 f fd ["self", "packet"] (sp_Sender_put K cl_Sender cl_BearerError cl_NotValid) :=
  fn_okN (k := 1) [true, false] F sc_Sender_put rfl (fun _ => rfl) (fun _ _ => rfl) fun x vs cdv A outer s H E hv hr => by
    match x, vs, hv with
    | (self, packet), [pa0, pa1], _ =>
      have nd := sc_Sender_put.nd
      show XG _ _ [some (pin pa0 (o_Sender K cl_Sender cl_BearerError cl_NotValid self)), some (aD K (Cd.d (packet : (List Int))))] (m_Sender_put self packet) (oS fun r : M_Sender => [some (pin pa0 (o_Sender K cl_Sender cl_BearerError cl_NotValid r)), none])
      unfold m_Sender_put
      exact (xg_st [some (pin pa0 (o_Sender K cl_Sender cl_BearerError cl_NotValid self)), some (aD K (Cd.d (packet : (List Int))))] rfl (xg_bind fun v_64 hv_64 =>
  (xg_if (N := (fun s_65 : Unit => [some (pin pa0 (o_Sender K cl_Sender cl_BearerError cl_NotValid self)), some (aD K (Cd.d (packet : (List Int))))])) (xt_not (xt_v (xe_callX (xx := packet) c_is_packet (hr.mono (by decide)) hv_64 (xx_of (xa_cons (xe_nm 1 rfl) xa_nil)) rfl rfl Fill.nil))) (fun _ => (xg_st [some (pin pa0 (o_Sender K cl_Sender cl_BearerError cl_NotValid self)), some (aD K (Cd.d (packet : (List Int))))] rfl xg_none)) (fun _ => (xg_nilS (wk_k (wk_k wk_0)))) (fun s_65 => (xg_pinC ctnO (Own.slot 0 rfl) 4 rfl fun pv_66 => (xg_st [some (pin pa0 (aObj cl_Sender ns_Sender [(aD K (Cd.d (self.bits : Int))), (aD K (Cd.d (self.window : Int))), (aD K (Cd.d (self.low : Int))), (aD K (Cd.d (self.next_ : Int))), (pin pv_66 (aLD K (List.map Cd.d (self.queue : List (List Int))))), (aDK K (dD (self.kept : (List (Int × (List Int)))))), (aD K (Cd.d (self.sent : Int))), (aLD K (List.map Cd.d (self.again : List (T3 Int Int Int)))), (aD K (Cd.d (self.silent : Int)))])), some (aD K (Cd.d (packet : (List Int))))] rfl (xg_bind fun g_67 hg_67 =>
  (xg_expr (xe_appendDW (cv := Cd.d) (xs := self.queue) (x := packet) (xe_fldV 4 (xe_nmV 0 rfl) (Own.slot 0 rfl) T_Sender.cl T_Sender.n_queue nd_Sender rfl rfl) (Own.kid ctnO (Own.slot 0 rfl) 4 rfl) (xe_frz (xe_list (xe_nm 1 rfl) rlD m_list)) (Own.kid ctnO (Own.slot 0 rfl) 4 rfl) (sz_lt (guardO_eq hg_67))) (by exact xg_weak (ρ := [some (pin pa0 (aObj cl_Sender ns_Sender [(aD K (Cd.d (self.bits : Int))), (aD K (Cd.d (self.window : Int))), (aD K (Cd.d (self.low : Int))), (aD K (Cd.d (self.next_ : Int))), (pin pv_66 (aLD K (List.map Cd.d ((self.queue ++ [packet]) : List (List Int))))), (aDK K (dD (self.kept : (List (Int × (List Int)))))), (aD K (Cd.d (self.sent : Int))), (aLD K (List.map Cd.d (self.again : List (T3 Int Int Int)))), (aD K (Cd.d (self.silent : Int)))])), some (aD K (Cd.d (packet : (List Int))))]) (B := (pin pa0 (o_Sender K cl_Sender cl_BearerError cl_NotValid { self with queue := (self.queue ++ [packet]) }))) 0 rfl (imp_pin (imp_obj (.cons imp_rfl (.cons imp_rfl (.cons imp_rfl (.cons imp_rfl (.cons (imp_pinned imp_rfl) (.cons imp_rfl (.cons imp_rfl (.cons imp_rfl (.cons imp_rfl .nil))))))))))) (xg_nilS (wk_k (wk_n wk_0))))))))))))
def m_Sender_sent_of (self : M_Sender) (number : Int) : Option Int :=
  (if (decide ((number : Int) = (self.next_ - 1))) = true then
  (some self.sent) else
  (Option.bind (dGet self.kept number) fun d_69 =>
  (some ((List.length d_69 : Nat) : Int))))
abbrev sp_Sender_sent_of (K : PySem.W.Frag) (cl_Sender : Addr) (cl_BearerError : Addr) (cl_NotValid : Addr) : Sp := SpM (fun x : (M_Sender × Int) => [(o_Sender K cl_Sender cl_BearerError cl_NotValid x.1), (aD K (Cd.d (x.2 : Int)))]) (fun x => m_Sender_sent_of x.1 x.2) (fun x (r : Int) => [some (o_Sender K cl_Sender cl_BearerError cl_NotValid x.1), none]) (fun _ r => (aD K (Cd.d (r : Int))))
abbrev s_Sender_sent_of : Stmt := inClass (topS 22) 2
theorem sc_Sender_sent_of : FnScope ["self", "number"] ["self", "number"] (defScope s_Sender_sent_of) := ⟨rfl, rfl, rfl, by decide +kernel, rfl, by decide +kernel, by decide +kernel⟩
set_option maxHeartbeats 4000000 in
theorem ok_Sender_sent_of {P : Program} {w : World} {K : PySem.W.Frag} {mg : Str → Option Value} {base : Heap} {f : Addr} {cl_Sender : Addr} {cl_BearerError : Addr} {cl_NotValid : Addr} {fd : FuncData} (F : Fun K "sent_of" "Sender.sent_of" s_Sender_sent_of f fd) (T_Sender : CF_Sender K cl_Sender) (X_BearerError : ExK K mg "BearerError" cl_BearerError) (E_BearerError : ExcC K cl_BearerError) (X_NotValid : ExK K mg "NotValid" cl_NotValid) (E_NotValid : ExcC K cl_NotValid) (xm_NotValid_BearerError : PySem.W.exmOne K (.ref cl_NotValid) (.ref cl_BearerError) = some true) (xk_NotValid_NotValid : PySem.W.kitOne K (.ref cl_NotValid) (.ref cl_NotValid) = some true) (m_len : mg "len" = none) : FnOk P w K mg base CX0 1 f fd ["self", "number"] (sp_Sender_sent_of K cl_Sender cl_BearerError cl_NotValid) :=
  fn_ok (k := 0) [true, false] F sc_Sender_sent_of rfl (fun _ => rfl) (fun _ _ => rfl) fun x vs cdv A outer s H E hv hr => by
    match x, vs, hv with
    | (self, number), [pa0, pa1], _ =>
      have nd := sc_Sender_sent_of.nd
      show XG _ _ [some (pin pa0 (o_Sender K cl_Sender cl_BearerError cl_NotValid self)), some (aD K (Cd.d (number : Int)))] (m_Sender_sent_of self number) (oR fun r : Int => [some ((aD K (Cd.d (r : Int)))), some (pin pa0 (o_Sender K cl_Sender cl_BearerError cl_NotValid self)), none])
      unfold m_Sender_sent_of
      exact (xg_st [some (pin pa0 (aObj cl_Sender ns_Sender [(aD K (Cd.d (self.bits : Int))), (aD K (Cd.d (self.window : Int))), (aD K (Cd.d (self.low : Int))), (aD K (Cd.d (self.next_ : Int))), (aLD K (List.map Cd.d (self.queue : List (List Int)))), (aDK K (dD (self.kept : (List (Int × (List Int)))))), (aD K (Cd.d (self.sent : Int))), (aLD K (List.map Cd.d (self.again : List (T3 Int Int Int)))), (aD K (Cd.d (self.silent : Int)))])), some (aD K (Cd.d (number : Int)))] rfl (xg_ifR (u := []) (xt_k (xkc_eq (x := (number : Int)) (y := ((self.next_ - 1) : Int)) hr.units (xe_nm 1 rfl) (xe_sub (xe_fldD 3 (xe_nmV 0 rfl) (Own.slot 0 rfl) T_Sender.cl T_Sender.n_next nd_Sender rfl rfl) xe_int) rdD rdD)) (fun _ => (xg_st [some (pin pa0 (aObj cl_Sender ns_Sender [(aD K (Cd.d (self.bits : Int))), (aD K (Cd.d (self.window : Int))), (aD K (Cd.d (self.low : Int))), (aD K (Cd.d (self.next_ : Int))), (aLD K (List.map Cd.d (self.queue : List (List Int)))), (aDK K (dD (self.kept : (List (Int × (List Int)))))), (aD K (Cd.d (self.sent : Int))), (aLD K (List.map Cd.d (self.again : List (T3 Int Int Int)))), (aD K (Cd.d (self.silent : Int)))])), some (aD K (Cd.d (number : Int)))] rfl (xg_ret (A := (aD K (Cd.d (self.sent : Int)))) (xe_fldD 6 (xe_nmV 0 rfl) (Own.slot 0 rfl) T_Sender.cl T_Sender.n_sent nd_Sender rfl rfl) (wk_k (wk_k (wk_n wk_0)))))) (fun _ => (xg_pinC ctnO (Own.slot 0 rfl) 5 rfl fun pv_68 => (xg_st [some (pin pa0 (aObj cl_Sender ns_Sender [(aD K (Cd.d (self.bits : Int))), (aD K (Cd.d (self.window : Int))), (aD K (Cd.d (self.low : Int))), (aD K (Cd.d (self.next_ : Int))), (aLD K (List.map Cd.d (self.queue : List (List Int)))), (pin pv_68 (aDK K (dD (self.kept : (List (Int × (List Int))))))), (aD K (Cd.d (self.sent : Int))), (aLD K (List.map Cd.d (self.again : List (T3 Int Int Int)))), (aD K (Cd.d (self.silent : Int)))])), some (aD K (Cd.d (number : Int)))] rfl (xg_bind fun d_69 hd_69 =>
  (xg_ret (A := (aD K (Cd.d (((List.length d_69 : Nat) : Int) : Int)))) (xe_weak (ρ1 := [some (pin pa0 (aObj cl_Sender ns_Sender [(aD K (Cd.d (self.bits : Int))), (aD K (Cd.d (self.window : Int))), (aD K (Cd.d (self.low : Int))), (aD K (Cd.d (self.next_ : Int))), (aLD K (List.map Cd.d (self.queue : List (List Int)))), (pin pv_68 (aDK K (dD (self.kept : (List (Int × (List Int))))))), (aD K (Cd.d (self.sent : Int))), (aLD K (List.map Cd.d (self.again : List (T3 Int Int Int)))), (aD K (Cd.d (self.silent : Int)))])), some (aD K (Cd.d (number : Int)))]) (B' := (pin pa0 (o_Sender K cl_Sender cl_BearerError cl_NotValid self))) (xe_stE [some (pin pa0 (aObj cl_Sender ns_Sender [(aD K (Cd.d (self.bits : Int))), (aD K (Cd.d (self.window : Int))), (aD K (Cd.d (self.low : Int))), (aD K (Cd.d (self.next_ : Int))), (aLD K (List.map Cd.d (self.queue : List (List Int)))), (pin pv_68 (aDK K (dD (self.kept : (List (Int × (List Int))))))), (aD K (Cd.d (self.sent : Int))), (aLD K (List.map Cd.d (self.again : List (T3 Int Int Int)))), (aD K (Cd.d (self.silent : Int)))])), some (aD K (Cd.d (number : Int)))] (xc_len (xs := d_69) (xe_dget (kvs := self.kept) hr.units hd_69 (xe_fldV 5 (xe_nmV 0 rfl) (Own.slot 0 rfl) T_Sender.cl T_Sender.n_kept nd_Sender rfl rfl) (xe_nm 1 rfl) (Own.kid ctnO (Own.slot 0 rfl) 5 rfl)) rlD m_len)) 0 rfl (imp_pin (imp_obj (.cons imp_rfl (.cons imp_rfl (.cons imp_rfl (.cons imp_rfl (.cons imp_rfl (.cons (imp_pinned imp_rfl) (.cons imp_rfl (.cons imp_rfl (.cons imp_rfl .nil)))))))))))) (wk_k (wk_k (wk_n wk_0))))))))))
def m_Sender_is_begun (self : M_Sender) : Option Bool :=
  (lett ((self.next_ - 1) : Int) fun last_70 =>
  (Option.bind ((if (dHas self.kept last_70) = true then (Option.bind (dGet self.kept last_70) fun d_76 => (some (decide (self.sent < ((List.length d_76 : Nat) : Int))))) else some false)) fun c_77 =>
  (some c_77)))
abbrev sp_Sender_is_begun (K : PySem.W.Frag) (cl_Sender : Addr) (cl_BearerError : Addr) (cl_NotValid : Addr) : Sp := SpM (fun x : M_Sender => [(o_Sender K cl_Sender cl_BearerError cl_NotValid x)]) (fun x => m_Sender_is_begun x) (fun x (r : Bool) => [some (o_Sender K cl_Sender cl_BearerError cl_NotValid x)]) (fun _ r => (aD K (Cd.d (r : Bool))))
abbrev s_Sender_is_begun : Stmt := inClass (topS 22) 3
theorem sc_Sender_is_begun : FnScope ["self", "last"] ["self"] (defScope s_Sender_is_begun) := ⟨rfl, rfl, rfl, by decide +kernel, rfl, by decide +kernel, by decide +kernel⟩
set_option maxHeartbeats 4000000 in
theorem ok_Sender_is_begun {P : Program} {w : World} {K : PySem.W.Frag} {mg : Str → Option Value} {base : Heap} {f : Addr} {cl_Sender : Addr} {cl_BearerError : Addr} {cl_NotValid : Addr} {fd : FuncData} (F : Fun K "is_begun" "Sender.is_begun" s_Sender_is_begun f fd) (T_Sender : CF_Sender K cl_Sender) (X_BearerError : ExK K mg "BearerError" cl_BearerError) (E_BearerError : ExcC K cl_BearerError) (X_NotValid : ExK K mg "NotValid" cl_NotValid) (E_NotValid : ExcC K cl_NotValid) (xm_NotValid_BearerError : PySem.W.exmOne K (.ref cl_NotValid) (.ref cl_BearerError) = some true) (xk_NotValid_NotValid : PySem.W.kitOne K (.ref cl_NotValid) (.ref cl_NotValid) = some true) (m_len : mg "len" = none) : FnOk P w K mg base CX0 1 f fd ["self"] (sp_Sender_is_begun K cl_Sender cl_BearerError cl_NotValid) :=
  fn_ok (k := 0) [true] F sc_Sender_is_begun rfl (fun _ => rfl) (fun _ _ => rfl) fun x vs cdv A outer s H E hv hr => by
    match x, vs, hv with
    | self, [pa0], _ =>
      have nd := sc_Sender_is_begun.nd
      show XG _ _ [some (pin pa0 (o_Sender K cl_Sender cl_BearerError cl_NotValid self)), none] (m_Sender_is_begun self) (oR fun r : Bool => [some ((aD K (Cd.d (r : Bool)))), some (pin pa0 (o_Sender K cl_Sender cl_BearerError cl_NotValid self)), none])
      unfold m_Sender_is_begun
      exact (xg_st [some (pin pa0 (aObj cl_Sender ns_Sender [(aD K (Cd.d (self.bits : Int))), (aD K (Cd.d (self.window : Int))), (aD K (Cd.d (self.low : Int))), (aD K (Cd.d (self.next_ : Int))), (aLD K (List.map Cd.d (self.queue : List (List Int)))), (aDK K (dD (self.kept : (List (Int × (List Int)))))), (aD K (Cd.d (self.sent : Int))), (aLD K (List.map Cd.d (self.again : List (T3 Int Int Int)))), (aD K (Cd.d (self.silent : Int)))])), none] rfl (xg_lett fun last_70 hlast_70 =>
  (xg_asg 1 (A := aD K (Cd.d (last_70 : Int))) (xe_nv (v := ((self.next_ - 1) : Int)) (xe_sub (xe_fldD 3 (xe_nmV 0 rfl) (Own.slot 0 rfl) T_Sender.cl T_Sender.n_next nd_Sender rfl rfl) xe_int) hlast_70) (xg_st [some (pin pa0 (o_Sender K cl_Sender cl_BearerError cl_NotValid self)), some (aD K (Cd.d (last_70 : Int)))] rfl (xg_bind fun c_77 hc_77 =>
  (xg_ret (A := (aD K (Cd.d (c_77 : Bool)))) (xe_andM (xe_pinC ctnO (Own.slot 0 rfl) 5 rfl fun pv_74 => (xe_weak (ρ1 := [some (pin pa0 (aObj cl_Sender ns_Sender [(aD K (Cd.d (self.bits : Int))), (aD K (Cd.d (self.window : Int))), (aD K (Cd.d (self.low : Int))), (aD K (Cd.d (self.next_ : Int))), (aLD K (List.map Cd.d (self.queue : List (List Int)))), (pin pv_74 (aDK K (dD (self.kept : (List (Int × (List Int))))))), (aD K (Cd.d (self.sent : Int))), (aLD K (List.map Cd.d (self.again : List (T3 Int Int Int)))), (aD K (Cd.d (self.silent : Int)))])), some (aD K (Cd.d (last_70 : Int)))]) (B' := (pin pa0 (o_Sender K cl_Sender cl_BearerError cl_NotValid self))) (xe_stE [some (pin pa0 (aObj cl_Sender ns_Sender [(aD K (Cd.d (self.bits : Int))), (aD K (Cd.d (self.window : Int))), (aD K (Cd.d (self.low : Int))), (aD K (Cd.d (self.next_ : Int))), (aLD K (List.map Cd.d (self.queue : List (List Int)))), (pin pv_74 (aDK K (dD (self.kept : (List (Int × (List Int))))))), (aD K (Cd.d (self.sent : Int))), (aLD K (List.map Cd.d (self.again : List (T3 Int Int Int)))), (aD K (Cd.d (self.silent : Int)))])), some (aD K (Cd.d (last_70 : Int)))] (xe_st0 [some (pin pa0 (aObj cl_Sender ns_Sender [(aD K (Cd.d (self.bits : Int))), (aD K (Cd.d (self.window : Int))), (aD K (Cd.d (self.low : Int))), (aD K (Cd.d (self.next_ : Int))), (aLD K (List.map Cd.d (self.queue : List (List Int)))), (pin pv_74 (aDK K (dD (self.kept : (List (Int × (List Int))))))), (aD K (Cd.d (self.sent : Int))), (aLD K (List.map Cd.d (self.again : List (T3 Int Int Int)))), (aD K (Cd.d (self.silent : Int)))])), some (aD K (Cd.d (last_70 : Int)))] rfl (xe_k (xk_din (kvs := self.kept) (k := last_70) hr.units (xe_nm 1 rfl) (xe_fldV 5 (xe_nmV 0 rfl) (Own.slot 0 rfl) T_Sender.cl T_Sender.n_kept nd_Sender rfl rfl) (Own.kid ctnO (Own.slot 0 rfl) 5 rfl))))) 0 rfl (imp_pin (imp_obj (.cons imp_rfl (.cons imp_rfl (.cons imp_rfl (.cons imp_rfl (.cons imp_rfl (.cons (imp_pinned imp_rfl) (.cons imp_rfl (.cons imp_rfl (.cons imp_rfl .nil))))))))))))) (xbm_one (xbm_bind fun d_76 hd_76 => (xbm_some (xe_pinC ctnO (Own.slot 0 rfl) 5 rfl fun pv_75 => (xe_weak (ρ1 := [some (pin pa0 (aObj cl_Sender ns_Sender [(aD K (Cd.d (self.bits : Int))), (aD K (Cd.d (self.window : Int))), (aD K (Cd.d (self.low : Int))), (aD K (Cd.d (self.next_ : Int))), (aLD K (List.map Cd.d (self.queue : List (List Int)))), (pin pv_75 (aDK K (dD (self.kept : (List (Int × (List Int))))))), (aD K (Cd.d (self.sent : Int))), (aLD K (List.map Cd.d (self.again : List (T3 Int Int Int)))), (aD K (Cd.d (self.silent : Int)))])), some (aD K (Cd.d (last_70 : Int)))]) (B' := (pin pa0 (o_Sender K cl_Sender cl_BearerError cl_NotValid self))) (xe_stE [some (pin pa0 (aObj cl_Sender ns_Sender [(aD K (Cd.d (self.bits : Int))), (aD K (Cd.d (self.window : Int))), (aD K (Cd.d (self.low : Int))), (aD K (Cd.d (self.next_ : Int))), (aLD K (List.map Cd.d (self.queue : List (List Int)))), (pin pv_75 (aDK K (dD (self.kept : (List (Int × (List Int))))))), (aD K (Cd.d (self.sent : Int))), (aLD K (List.map Cd.d (self.again : List (T3 Int Int Int)))), (aD K (Cd.d (self.silent : Int)))])), some (aD K (Cd.d (last_70 : Int)))] (xe_st0 [some (pin pa0 (aObj cl_Sender ns_Sender [(aD K (Cd.d (self.bits : Int))), (aD K (Cd.d (self.window : Int))), (aD K (Cd.d (self.low : Int))), (aD K (Cd.d (self.next_ : Int))), (aLD K (List.map Cd.d (self.queue : List (List Int)))), (pin pv_75 (aDK K (dD (self.kept : (List (Int × (List Int))))))), (aD K (Cd.d (self.sent : Int))), (aLD K (List.map Cd.d (self.again : List (T3 Int Int Int)))), (aD K (Cd.d (self.silent : Int)))])), some (aD K (Cd.d (last_70 : Int)))] rfl (xe_k (xk_lt (xe_fldD 6 (xe_nmV 0 rfl) (Own.slot 0 rfl) T_Sender.cl T_Sender.n_sent nd_Sender rfl rfl) (xc_len (xs := d_76) (xe_dget (kvs := self.kept) hr.units hd_76 (xe_fldV 5 (xe_nmV 0 rfl) (Own.slot 0 rfl) T_Sender.cl T_Sender.n_kept nd_Sender rfl rfl) (xe_nm 1 rfl) (Own.kid ctnO (Own.slot 0 rfl) 5 rfl)) rlD m_len))))) 0 rfl (imp_pin (imp_obj (.cons imp_rfl (.cons imp_rfl (.cons imp_rfl (.cons imp_rfl (.cons imp_rfl (.cons (imp_pinned imp_rfl) (.cons imp_rfl (.cons imp_rfl (.cons imp_rfl .nil)))))))))))))))) hc_77) (wk_k (wk_k (wk_n wk_0)))))))))
def m_Sender_can_begin (self : M_Sender) : Option Bool :=
  (some ((decide (0 < ((List.length self.queue : Nat) : Int))) && (decide (self.next_ < (self.low + self.window)))))
abbrev sp_Sender_can_begin (K : PySem.W.Frag) (cl_Sender : Addr) (cl_BearerError : Addr) (cl_NotValid : Addr) : Sp := SpM (fun x : M_Sender => [(o_Sender K cl_Sender cl_BearerError cl_NotValid x)]) (fun x => m_Sender_can_begin x) (fun x (r : Bool) => [some (o_Sender K cl_Sender cl_BearerError cl_NotValid x)]) (fun _ r => (aD K (Cd.d (r : Bool))))
abbrev s_Sender_can_begin : Stmt := inClass (topS 22) 4
theorem sc_Sender_can_begin : FnScope ["self"] ["self"] (defScope s_Sender_can_begin) := ⟨rfl, rfl, rfl, by decide +kernel, rfl, by decide +kernel, by decide +kernel⟩
set_option maxHeartbeats 4000000 in
theorem ok_Sender_can_begin {P : Program} {w : World} {K : PySem.W.Frag} {mg : Str → Option Value} {base : Heap} {f : Addr} {cl_Sender : Addr} {cl_BearerError : Addr} {cl_NotValid : Addr} {fd : FuncData} (F : Fun K "can_begin" "Sender.can_begin" s_Sender_can_begin f fd) (T_Sender : CF_Sender K cl_Sender) (X_BearerError : ExK K mg "BearerError" cl_BearerError) (E_BearerError : ExcC K cl_BearerError) (X_NotValid : ExK K mg "NotValid" cl_NotValid) (E_NotValid : ExcC K cl_NotValid) (xm_NotValid_BearerError : PySem.W.exmOne K (.ref cl_NotValid) (.ref cl_BearerError) = some true) (xk_NotValid_NotValid : PySem.W.kitOne K (.ref cl_NotValid) (.ref cl_NotValid) = some true) (m_len : mg "len" = none) : FnOk P w K mg base CX0 1 f fd ["self"] (sp_Sender_can_begin K cl_Sender cl_BearerError cl_NotValid) :=
  fn_ok (k := 0) [true] F sc_Sender_can_begin rfl (fun _ => rfl) (fun _ _ => rfl) fun x vs cdv A outer s H E hv hr => by
    match x, vs, hv with
    | self, [pa0], _ =>
      have nd := sc_Sender_can_begin.nd
      show XG _ _ [some (pin pa0 (o_Sender K cl_Sender cl_BearerError cl_NotValid self))] (m_Sender_can_begin self) (oR fun r : Bool => [some ((aD K (Cd.d (r : Bool)))), some (pin pa0 (o_Sender K cl_Sender cl_BearerError cl_NotValid self))])
      unfold m_Sender_can_begin
      exact (xg_st [some (pin pa0 (o_Sender K cl_Sender cl_BearerError cl_NotValid self))] rfl (xg_ret (A := (aD K (Cd.d (((decide (0 < ((List.length self.queue : Nat) : Int))) && (decide (self.next_ < (self.low + self.window)))) : Bool)))) (xe_and (xe_pinC ctnO (Own.slot 0 rfl) 4 rfl fun pv_79 => (xe_weak (ρ1 := [some (pin pa0 (aObj cl_Sender ns_Sender [(aD K (Cd.d (self.bits : Int))), (aD K (Cd.d (self.window : Int))), (aD K (Cd.d (self.low : Int))), (aD K (Cd.d (self.next_ : Int))), (pin pv_79 (aLD K (List.map Cd.d (self.queue : List (List Int))))), (aDK K (dD (self.kept : (List (Int × (List Int)))))), (aD K (Cd.d (self.sent : Int))), (aLD K (List.map Cd.d (self.again : List (T3 Int Int Int)))), (aD K (Cd.d (self.silent : Int)))]))]) (B' := (pin pa0 (o_Sender K cl_Sender cl_BearerError cl_NotValid self))) (xe_stE [some (pin pa0 (aObj cl_Sender ns_Sender [(aD K (Cd.d (self.bits : Int))), (aD K (Cd.d (self.window : Int))), (aD K (Cd.d (self.low : Int))), (aD K (Cd.d (self.next_ : Int))), (pin pv_79 (aLD K (List.map Cd.d (self.queue : List (List Int))))), (aDK K (dD (self.kept : (List (Int × (List Int)))))), (aD K (Cd.d (self.sent : Int))), (aLD K (List.map Cd.d (self.again : List (T3 Int Int Int)))), (aD K (Cd.d (self.silent : Int)))]))] (xe_st0 [some (pin pa0 (aObj cl_Sender ns_Sender [(aD K (Cd.d (self.bits : Int))), (aD K (Cd.d (self.window : Int))), (aD K (Cd.d (self.low : Int))), (aD K (Cd.d (self.next_ : Int))), (pin pv_79 (aLD K (List.map Cd.d (self.queue : List (List Int))))), (aDK K (dD (self.kept : (List (Int × (List Int)))))), (aD K (Cd.d (self.sent : Int))), (aLD K (List.map Cd.d (self.again : List (T3 Int Int Int)))), (aD K (Cd.d (self.silent : Int)))]))] rfl (xe_k (xk_gt (xc_len (xs := self.queue) (xe_fldV 4 (xe_nmV 0 rfl) (Own.slot 0 rfl) T_Sender.cl T_Sender.n_queue nd_Sender rfl rfl) (Rlm.ls (rmW (Own.kid ctnO (Own.slot 0 rfl) 4 rfl))) m_len) xe_int)))) 0 rfl (imp_pin (imp_obj (.cons imp_rfl (.cons imp_rfl (.cons imp_rfl (.cons imp_rfl (.cons (imp_pinned imp_rfl) (.cons imp_rfl (.cons imp_rfl (.cons imp_rfl (.cons imp_rfl .nil))))))))))))) fun _ => (xe_one (xe_k (xk_lt (xe_fldD 3 (xe_nmV 0 rfl) (Own.slot 0 rfl) T_Sender.cl T_Sender.n_next nd_Sender rfl rfl) (xe_add (xe_fldD 2 (xe_nmV 0 rfl) (Own.slot 0 rfl) T_Sender.cl T_Sender.n_low nd_Sender rfl rfl) (xe_fldD 1 (xe_nmV 0 rfl) (Own.slot 0 rfl) T_Sender.cl T_Sender.n_window nd_Sender rfl rfl)))))) (wk_k (wk_k wk_0))))
def m_Sender_has_work (self : M_Sender) : Option Bool :=
  (Option.bind ((if (decide (0 < ((List.length self.again : Nat) : Int))) = true then some true else (orO (Option.bind (m_Sender_is_begun self) fun v_84 => (some v_84)) (Option.bind (m_Sender_can_begin self) fun v_85 => (some v_85))))) fun c_86 =>
  (some c_86))
abbrev sp_Sender_has_work (K : PySem.W.Frag) (cl_Sender : Addr) (cl_BearerError : Addr) (cl_NotValid : Addr) : Sp := SpM (fun x : M_Sender => [(o_Sender K cl_Sender cl_BearerError cl_NotValid x)]) (fun x => m_Sender_has_work x) (fun x (r : Bool) => [some (o_Sender K cl_Sender cl_BearerError cl_NotValid x)]) (fun _ r => (aD K (Cd.d (r : Bool))))
abbrev s_Sender_has_work : Stmt := inClass (topS 22) 5
theorem sc_Sender_has_work : FnScope ["self"] ["self"] (defScope s_Sender_has_work) := ⟨rfl, rfl, rfl, by decide +kernel, rfl, by decide +kernel, by decide +kernel⟩
set_option maxHeartbeats 4000000 in
theorem ok_Sender_has_work {P : Program} {w : World} {K : PySem.W.Frag} {mg : Str → Option Value} {base : Heap} {f : Addr} {cl_Sender : Addr} {cl_BearerError : Addr} {cl_NotValid : Addr} {fd : FuncData} (F : Fun K "has_work" "Sender.has_work" s_Sender_has_work f fd) (T_Sender : CF_Sender K cl_Sender) (X_BearerError : ExK K mg "BearerError" cl_BearerError) (E_BearerError : ExcC K cl_BearerError) (X_NotValid : ExK K mg "NotValid" cl_NotValid) (E_NotValid : ExcC K cl_NotValid) (xm_NotValid_BearerError : PySem.W.exmOne K (.ref cl_NotValid) (.ref cl_BearerError) = some true) (xk_NotValid_NotValid : PySem.W.kitOne K (.ref cl_NotValid) (.ref cl_NotValid) = some true) (m_len : mg "len" = none) (c_Sender_can_begin : CalM P w K mg base 1 cl_Sender "can_begin" (sp_Sender_can_begin K cl_Sender cl_BearerError cl_NotValid)) (c_Sender_is_begun : CalM P w K mg base 1 cl_Sender "is_begun" (sp_Sender_is_begun K cl_Sender cl_BearerError cl_NotValid)) : FnOk P w K mg base CX0 2 f fd ["self"] (sp_Sender_has_work K cl_Sender cl_BearerError cl_NotValid) :=
  fn_ok (k := 1) [true] F sc_Sender_has_work rfl (fun _ => rfl) (fun _ _ => rfl) fun x vs cdv A outer s H E hv hr => by
    match x, vs, hv with
    | self, [pa0], _ =>
      have nd := sc_Sender_has_work.nd
      show XG _ _ [some (pin pa0 (o_Sender K cl_Sender cl_BearerError cl_NotValid self))] (m_Sender_has_work self) (oR fun r : Bool => [some ((aD K (Cd.d (r : Bool)))), some (pin pa0 (o_Sender K cl_Sender cl_BearerError cl_NotValid self))])
      unfold m_Sender_has_work
      exact (xg_st [some (pin pa0 (o_Sender K cl_Sender cl_BearerError cl_NotValid self))] rfl (xg_bind fun c_86 hc_86 =>
  (xg_ret (A := (aD K (Cd.d (c_86 : Bool)))) (xe_orM (xe_pinC ctnO (Own.slot 0 rfl) 7 rfl fun pv_83 => (xe_weak (ρ1 := [some (pin pa0 (aObj cl_Sender ns_Sender [(aD K (Cd.d (self.bits : Int))), (aD K (Cd.d (self.window : Int))), (aD K (Cd.d (self.low : Int))), (aD K (Cd.d (self.next_ : Int))), (aLD K (List.map Cd.d (self.queue : List (List Int)))), (aDK K (dD (self.kept : (List (Int × (List Int)))))), (aD K (Cd.d (self.sent : Int))), (pin pv_83 (aLD K (List.map Cd.d (self.again : List (T3 Int Int Int))))), (aD K (Cd.d (self.silent : Int)))]))]) (B' := (pin pa0 (o_Sender K cl_Sender cl_BearerError cl_NotValid self))) (xe_stE [some (pin pa0 (aObj cl_Sender ns_Sender [(aD K (Cd.d (self.bits : Int))), (aD K (Cd.d (self.window : Int))), (aD K (Cd.d (self.low : Int))), (aD K (Cd.d (self.next_ : Int))), (aLD K (List.map Cd.d (self.queue : List (List Int)))), (aDK K (dD (self.kept : (List (Int × (List Int)))))), (aD K (Cd.d (self.sent : Int))), (pin pv_83 (aLD K (List.map Cd.d (self.again : List (T3 Int Int Int))))), (aD K (Cd.d (self.silent : Int)))]))] (xe_st0 [some (pin pa0 (aObj cl_Sender ns_Sender [(aD K (Cd.d (self.bits : Int))), (aD K (Cd.d (self.window : Int))), (aD K (Cd.d (self.low : Int))), (aD K (Cd.d (self.next_ : Int))), (aLD K (List.map Cd.d (self.queue : List (List Int)))), (aDK K (dD (self.kept : (List (Int × (List Int)))))), (aD K (Cd.d (self.sent : Int))), (pin pv_83 (aLD K (List.map Cd.d (self.again : List (T3 Int Int Int))))), (aD K (Cd.d (self.silent : Int)))]))] rfl (xe_k (xk_gt (xc_len (xs := self.again) (xe_fldV 7 (xe_nmV 0 rfl) (Own.slot 0 rfl) T_Sender.cl T_Sender.n_again nd_Sender rfl rfl) (Rlm.ls (rmW (Own.kid ctnO (Own.slot 0 rfl) 7 rfl))) m_len) xe_int)))) 0 rfl (imp_pin (imp_obj (.cons imp_rfl (.cons imp_rfl (.cons imp_rfl (.cons imp_rfl (.cons imp_rfl (.cons imp_rfl (.cons imp_rfl (.cons (imp_pinned imp_rfl) (.cons imp_rfl .nil))))))))))))) (xbm_or (xbm_bind fun v_84 hv_84 => (xbm_some (xe_methX0 (xx := self) c_Sender_is_begun T_Sender.cl nm_Sender_is_begun (hr.mono (by decide)) hv_84 (xe_nmV 0 rfl) (Own.slot 0 rfl) (Own.slot 0 rfl) rfl rfl rfl (Fill.cons 0 (List.Mem.head _) rfl (Own.slot 0 rfl) Fill.nil)))) (xbm_one (xbm_bind fun v_85 hv_85 => (xbm_some (xe_methX0 (xx := self) c_Sender_can_begin T_Sender.cl nm_Sender_can_begin (hr.mono (by decide)) hv_85 (xe_nmV 0 rfl) (Own.slot 0 rfl) (Own.slot 0 rfl) rfl rfl rfl (Fill.cons 0 (List.Mem.head _) rfl (Own.slot 0 rfl) Fill.nil)))))) hc_86) (wk_k (wk_k wk_0)))))
def m_Sender_choice (self : M_Sender) : Option (Option (T4 (List Int) Int Int Int)) :=
  (if (!List.isEmpty self.again) = true then
  (Option.bind (atI self.again 0) fun x_89 =>
  (Option.bind (dGet self.kept x_89.a) fun d_91 =>
  (some (some (T4.mk d_91 x_89.a x_89.b x_89.c))))) else
  (Option.bind (m_Sender_is_begun self) fun v_92 =>
  (if v_92 = true then
  (Option.bind (dGet self.kept (self.next_ - 1)) fun d_94 =>
  (some (some (T4.mk d_94 (self.next_ - 1) self.sent ((List.length d_94 : Nat) : Int))))) else
  (Option.bind (m_Sender_can_begin self) fun v_95 =>
  (if v_95 = true then
  (Option.bind (atI self.queue 0) fun x_97 =>
  (some (some (T4.mk x_97 self.next_ 0 ((List.length x_97 : Nat) : Int))))) else
  (some (none : (Option (T4 (List Int) Int Int Int)))))))))
abbrev sp_Sender_choice (K : PySem.W.Frag) (cl_Sender : Addr) (cl_BearerError : Addr) (cl_NotValid : Addr) : Sp := SpM (fun x : M_Sender => [(o_Sender K cl_Sender cl_BearerError cl_NotValid x)]) (fun x => m_Sender_choice x) (fun x (r : (Option (T4 (List Int) Int Int Int))) => [some (o_Sender K cl_Sender cl_BearerError cl_NotValid x)]) (fun _ r => (aD K (Cd.d (r : (Option (T4 (List Int) Int Int Int))))))
abbrev s_Sender_choice : Stmt := inClass (topS 22) 6
theorem sc_Sender_choice : FnScope ["self", "packet", "number", "start", "stop"] ["self"] (defScope s_Sender_choice) := ⟨rfl, rfl, rfl, by decide +kernel, rfl, by decide +kernel, by decide +kernel⟩
set_option maxHeartbeats 4000000 in
theorem ok_Sender_choice {P : Program} {w : World} {K : PySem.W.Frag} {mg : Str → Option Value} {base : Heap} {f : Addr} {cl_Sender : Addr} {cl_BearerError : Addr} {cl_NotValid : Addr} {fd : FuncData} (F : Fun K "choice" "Sender.choice" s_Sender_choice f fd) (T_Sender : CF_Sender K cl_Sender) (X_BearerError : ExK K mg "BearerError" cl_BearerError) (E_BearerError : ExcC K cl_BearerError) (X_NotValid : ExK K mg "NotValid" cl_NotValid) (E_NotValid : ExcC K cl_NotValid) (xm_NotValid_BearerError : PySem.W.exmOne K (.ref cl_NotValid) (.ref cl_BearerError) = some true) (xk_NotValid_NotValid : PySem.W.kitOne K (.ref cl_NotValid) (.ref cl_NotValid) = some true) (m_len : mg "len" = none) (c_Sender_can_begin : CalM P w K mg base 1 cl_Sender "can_begin" (sp_Sender_can_begin K cl_Sender cl_BearerError cl_NotValid)) (c_Sender_is_begun : CalM P w K mg base 1 cl_Sender "is_begun" (sp_Sender_is_begun K cl_Sender cl_BearerError cl_NotValid)) : FnOk P w K mg base CX0 2 f fd ["self"] (sp_Sender_choice K cl_Sender cl_BearerError cl_NotValid) :=
  fn_ok (k := 1) [true] F sc_Sender_choice rfl (fun _ => rfl) (fun _ _ => rfl) fun x vs cdv A outer s H E hv hr => by
    match x, vs, hv with
    | self, [pa0], _ =>
      have nd := sc_Sender_choice.nd
      show XG _ _ [some (pin pa0 (o_Sender K cl_Sender cl_BearerError cl_NotValid self)), none, none, none, none] (m_Sender_choice self) (oR fun r : (Option (T4 (List Int) Int Int Int)) => [some ((aD K (Cd.d (r : (Option (T4 (List Int) Int Int Int)))))), some (pin pa0 (o_Sender K cl_Sender cl_BearerError cl_NotValid self)), none, none, none, none])
      unfold m_Sender_choice
      exact (xg_pinC ctnO (Own.slot 0 rfl) 7 rfl fun pv_87 => (xg_st [some (pin pa0 (aObj cl_Sender ns_Sender [(aD K (Cd.d (self.bits : Int))), (aD K (Cd.d (self.window : Int))), (aD K (Cd.d (self.low : Int))), (aD K (Cd.d (self.next_ : Int))), (aLD K (List.map Cd.d (self.queue : List (List Int)))), (aDK K (dD (self.kept : (List (Int × (List Int)))))), (aD K (Cd.d (self.sent : Int))), (pin pv_87 (aLD K (List.map Cd.d (self.again : List (T3 Int Int Int))))), (aD K (Cd.d (self.silent : Int)))])), none, none, none, none] rfl (xg_ifR (u := []) (xt_weakE (ρ1 := [some (pin pa0 (aObj cl_Sender ns_Sender [(aD K (Cd.d (self.bits : Int))), (aD K (Cd.d (self.window : Int))), (aD K (Cd.d (self.low : Int))), (aD K (Cd.d (self.next_ : Int))), (aLD K (List.map Cd.d (self.queue : List (List Int)))), (aDK K (dD (self.kept : (List (Int × (List Int)))))), (aD K (Cd.d (self.sent : Int))), (pin pv_87 (aLD K (List.map Cd.d (self.again : List (T3 Int Int Int))))), (aD K (Cd.d (self.silent : Int)))])), none, none, none, none]) (B' := (pin pa0 (o_Sender K cl_Sender cl_BearerError cl_NotValid self))) (xt_stE [some (pin pa0 (aObj cl_Sender ns_Sender [(aD K (Cd.d (self.bits : Int))), (aD K (Cd.d (self.window : Int))), (aD K (Cd.d (self.low : Int))), (aD K (Cd.d (self.next_ : Int))), (aLD K (List.map Cd.d (self.queue : List (List Int)))), (aDK K (dD (self.kept : (List (Int × (List Int)))))), (aD K (Cd.d (self.sent : Int))), (pin pv_87 (aLD K (List.map Cd.d (self.again : List (T3 Int Int Int))))), (aD K (Cd.d (self.silent : Int)))])), none, none, none, none] (xc_truth (xs := self.again) (xe_fldV 7 (xe_nmV 0 rfl) (Own.slot 0 rfl) T_Sender.cl T_Sender.n_again nd_Sender rfl rfl) (Rls.sq (Rlm.ls (rmW (Own.kid ctnO (Own.slot 0 rfl) 7 rfl)))) (Rlm.ls (rmW (Own.kid ctnO (Own.slot 0 rfl) 7 rfl))))) 0 rfl (imp_pin (imp_obj (.cons imp_rfl (.cons imp_rfl (.cons imp_rfl (.cons imp_rfl (.cons imp_rfl (.cons imp_rfl (.cons imp_rfl (.cons (imp_pinned imp_rfl) (.cons imp_rfl .nil)))))))))))) (fun _ => (xg_pinC ctnO (Own.slot 0 rfl) 7 rfl fun pv_88 => (xg_st [some (pin pa0 (aObj cl_Sender ns_Sender [(aD K (Cd.d (self.bits : Int))), (aD K (Cd.d (self.window : Int))), (aD K (Cd.d (self.low : Int))), (aD K (Cd.d (self.next_ : Int))), (aLD K (List.map Cd.d (self.queue : List (List Int)))), (aDK K (dD (self.kept : (List (Int × (List Int)))))), (aD K (Cd.d (self.sent : Int))), (pin pv_88 (aLD K (List.map Cd.d (self.again : List (T3 Int Int Int))))), (aD K (Cd.d (self.silent : Int)))])), none, none, none, none] rfl (xg_bind fun x_89 hx_89 =>
  (xg_tgt (A := aD K (Cd.d (x_89 : (T3 Int Int Int)))) (xc_ix (xs := self.again) (xe_fldV 7 (xe_nmV 0 rfl) (Own.slot 0 rfl) T_Sender.cl T_Sender.n_again nd_Sender rfl rfl) xe_int (Rlm.ls (rmW (Own.kid ctnO (Own.slot 0 rfl) 7 rfl))) hx_89) (xp_tup rfl (xps_cons (xp_nm 2) (xps_cons (xp_nm 3) (xps_cons (xp_nm 4) xps_nil)))) (by exact xg_weak (ρ := [some (pin pa0 (aObj cl_Sender ns_Sender [(aD K (Cd.d (self.bits : Int))), (aD K (Cd.d (self.window : Int))), (aD K (Cd.d (self.low : Int))), (aD K (Cd.d (self.next_ : Int))), (aLD K (List.map Cd.d (self.queue : List (List Int)))), (aDK K (dD (self.kept : (List (Int × (List Int)))))), (aD K (Cd.d (self.sent : Int))), (pin pv_88 (aLD K (List.map Cd.d (self.again : List (T3 Int Int Int))))), (aD K (Cd.d (self.silent : Int)))])), none, some (aD K (Cd.d (x_89.a : Int))), some (aD K (Cd.d (x_89.b : Int))), some (aD K (Cd.d (x_89.c : Int)))]) (B := (pin pa0 (o_Sender K cl_Sender cl_BearerError cl_NotValid self))) 0 rfl (imp_pin (imp_obj (.cons imp_rfl (.cons imp_rfl (.cons imp_rfl (.cons imp_rfl (.cons imp_rfl (.cons imp_rfl (.cons imp_rfl (.cons (imp_pinned imp_rfl) (.cons imp_rfl .nil))))))))))) (xg_pinC ctnO (Own.slot 0 rfl) 5 rfl fun pv_90 => (xg_st [some (pin pa0 (aObj cl_Sender ns_Sender [(aD K (Cd.d (self.bits : Int))), (aD K (Cd.d (self.window : Int))), (aD K (Cd.d (self.low : Int))), (aD K (Cd.d (self.next_ : Int))), (aLD K (List.map Cd.d (self.queue : List (List Int)))), (pin pv_90 (aDK K (dD (self.kept : (List (Int × (List Int))))))), (aD K (Cd.d (self.sent : Int))), (aLD K (List.map Cd.d (self.again : List (T3 Int Int Int)))), (aD K (Cd.d (self.silent : Int)))])), none, some (aD K (Cd.d (x_89.a : Int))), some (aD K (Cd.d (x_89.b : Int))), some (aD K (Cd.d (x_89.c : Int)))] rfl (xg_bind fun d_91 hd_91 =>
  (xg_ret (A := (aD K (Cd.d ((some (T4.mk d_91 x_89.a x_89.b x_89.c)) : (Option (T4 (List Int) Int Int Int)))))) (xe_weak (ρ1 := [some (pin pa0 (aObj cl_Sender ns_Sender [(aD K (Cd.d (self.bits : Int))), (aD K (Cd.d (self.window : Int))), (aD K (Cd.d (self.low : Int))), (aD K (Cd.d (self.next_ : Int))), (aLD K (List.map Cd.d (self.queue : List (List Int)))), (pin pv_90 (aDK K (dD (self.kept : (List (Int × (List Int))))))), (aD K (Cd.d (self.sent : Int))), (aLD K (List.map Cd.d (self.again : List (T3 Int Int Int)))), (aD K (Cd.d (self.silent : Int)))])), none, some (aD K (Cd.d (x_89.a : Int))), some (aD K (Cd.d (x_89.b : Int))), some (aD K (Cd.d (x_89.c : Int)))]) (B' := (pin pa0 (o_Sender K cl_Sender cl_BearerError cl_NotValid self))) (xe_stE [some (pin pa0 (aObj cl_Sender ns_Sender [(aD K (Cd.d (self.bits : Int))), (aD K (Cd.d (self.window : Int))), (aD K (Cd.d (self.low : Int))), (aD K (Cd.d (self.next_ : Int))), (aLD K (List.map Cd.d (self.queue : List (List Int)))), (pin pv_90 (aDK K (dD (self.kept : (List (Int × (List Int))))))), (aD K (Cd.d (self.sent : Int))), (aLD K (List.map Cd.d (self.again : List (T3 Int Int Int)))), (aD K (Cd.d (self.silent : Int)))])), none, some (aD K (Cd.d (x_89.a : Int))), some (aD K (Cd.d (x_89.b : Int))), some (aD K (Cd.d (x_89.c : Int)))] (xe_is (B := aD K (Cd.d (some (T4.mk d_91 x_89.a x_89.b x_89.c) : (Option (T4 (List Int) Int Int Int))))) (xe_tup (ds := [Cd.d (d_91 : (List Int)), Cd.d (x_89.a : Int), Cd.d (x_89.b : Int), Cd.d (x_89.c : Int)]) (xa_cons (xe_dget (kvs := self.kept) hr.units hd_91 (xe_fldV 5 (xe_nmV 0 rfl) (Own.slot 0 rfl) T_Sender.cl T_Sender.n_kept nd_Sender rfl rfl) (xe_nm 2 rfl) (Own.kid ctnO (Own.slot 0 rfl) 5 rfl)) (xa_cons (xe_nm 2 rfl) (xa_cons (xe_nm 3 rfl) (xa_cons (xe_nm 4 rfl) xa_nil)))) (Nat.le_of_ble_eq_true rfl)) rfl)) 0 rfl (imp_pin (imp_obj (.cons imp_rfl (.cons imp_rfl (.cons imp_rfl (.cons imp_rfl (.cons imp_rfl (.cons (imp_pinned imp_rfl) (.cons imp_rfl (.cons imp_rfl (.cons imp_rfl .nil)))))))))))) (wk_k (wk_k (wk_n (wk_n (wk_n (wk_n wk_0)))))))))))))))) (fun _ => (xg_st [some (pin pa0 (o_Sender K cl_Sender cl_BearerError cl_NotValid self)), none, none, none, none] rfl (xg_bind fun v_92 hv_92 =>
  (xg_ifR (u := []) (xt_v (xe_methX0 (xx := self) c_Sender_is_begun T_Sender.cl nm_Sender_is_begun (hr.mono (by decide)) hv_92 (xe_nmV 0 rfl) (Own.slot 0 rfl) (Own.slot 0 rfl) rfl rfl rfl (Fill.cons 0 (List.Mem.head _) rfl (Own.slot 0 rfl) Fill.nil))) (fun _ => (xg_pinC ctnO (Own.slot 0 rfl) 5 rfl fun pv_93 => (xg_st [some (pin pa0 (aObj cl_Sender ns_Sender [(aD K (Cd.d (self.bits : Int))), (aD K (Cd.d (self.window : Int))), (aD K (Cd.d (self.low : Int))), (aD K (Cd.d (self.next_ : Int))), (aLD K (List.map Cd.d (self.queue : List (List Int)))), (pin pv_93 (aDK K (dD (self.kept : (List (Int × (List Int))))))), (aD K (Cd.d (self.sent : Int))), (aLD K (List.map Cd.d (self.again : List (T3 Int Int Int)))), (aD K (Cd.d (self.silent : Int)))])), none, none, none, none] rfl (xg_bind fun d_94 hd_94 =>
  (xg_asg 1 (A := aD K (Cd.d (d_94 : (List Int)))) (xe_dget (kvs := self.kept) hr.units hd_94 (xe_fldV 5 (xe_nmV 0 rfl) (Own.slot 0 rfl) T_Sender.cl T_Sender.n_kept nd_Sender rfl rfl) (xe_sub (xe_fldD 3 (xe_nmV 0 rfl) (Own.slot 0 rfl) T_Sender.cl T_Sender.n_next nd_Sender rfl rfl) xe_int) (Own.kid ctnO (Own.slot 0 rfl) 5 rfl)) (by exact xg_weak (ρ := [some (pin pa0 (aObj cl_Sender ns_Sender [(aD K (Cd.d (self.bits : Int))), (aD K (Cd.d (self.window : Int))), (aD K (Cd.d (self.low : Int))), (aD K (Cd.d (self.next_ : Int))), (aLD K (List.map Cd.d (self.queue : List (List Int)))), (pin pv_93 (aDK K (dD (self.kept : (List (Int × (List Int))))))), (aD K (Cd.d (self.sent : Int))), (aLD K (List.map Cd.d (self.again : List (T3 Int Int Int)))), (aD K (Cd.d (self.silent : Int)))])), some (aD K (Cd.d (d_94 : (List Int)))), none, none, none]) (B := (pin pa0 (o_Sender K cl_Sender cl_BearerError cl_NotValid self))) 0 rfl (imp_pin (imp_obj (.cons imp_rfl (.cons imp_rfl (.cons imp_rfl (.cons imp_rfl (.cons imp_rfl (.cons (imp_pinned imp_rfl) (.cons imp_rfl (.cons imp_rfl (.cons imp_rfl .nil))))))))))) (xg_st [some (pin pa0 (aObj cl_Sender ns_Sender [(aD K (Cd.d (self.bits : Int))), (aD K (Cd.d (self.window : Int))), (aD K (Cd.d (self.low : Int))), (aD K (Cd.d (self.next_ : Int))), (aLD K (List.map Cd.d (self.queue : List (List Int)))), (aDK K (dD (self.kept : (List (Int × (List Int)))))), (aD K (Cd.d (self.sent : Int))), (aLD K (List.map Cd.d (self.again : List (T3 Int Int Int)))), (aD K (Cd.d (self.silent : Int)))])), some (aD K (Cd.d (d_94 : (List Int)))), none, none, none] rfl (xg_ret (A := (aD K (Cd.d ((some (T4.mk d_94 (self.next_ - 1) self.sent ((List.length d_94 : Nat) : Int))) : (Option (T4 (List Int) Int Int Int)))))) (xe_is (B := aD K (Cd.d (some (T4.mk d_94 (self.next_ - 1) self.sent ((List.length d_94 : Nat) : Int)) : (Option (T4 (List Int) Int Int Int))))) (xe_tup (ds := [Cd.d (d_94 : (List Int)), Cd.d ((self.next_ - 1) : Int), Cd.d (self.sent : Int), Cd.d (((List.length d_94 : Nat) : Int) : Int)]) (xa_cons (xe_nm 1 rfl) (xa_cons (xe_sub (xe_fldD 3 (xe_nmV 0 rfl) (Own.slot 0 rfl) T_Sender.cl T_Sender.n_next nd_Sender rfl rfl) xe_int) (xa_cons (xe_fldD 6 (xe_nmV 0 rfl) (Own.slot 0 rfl) T_Sender.cl T_Sender.n_sent nd_Sender rfl rfl) (xa_cons (xc_len (xs := d_94) (xe_nm 1 rfl) rlD m_len) xa_nil)))) (Nat.le_of_ble_eq_true rfl)) rfl) (wk_k (wk_k (wk_n (wk_n (wk_n (wk_n wk_0)))))))))))))) (fun _ => (xg_st [some (pin pa0 (o_Sender K cl_Sender cl_BearerError cl_NotValid self)), none, none, none, none] rfl (xg_bind fun v_95 hv_95 =>
  (xg_ifR (u := []) (xt_v (xe_methX0 (xx := self) c_Sender_can_begin T_Sender.cl nm_Sender_can_begin (hr.mono (by decide)) hv_95 (xe_nmV 0 rfl) (Own.slot 0 rfl) (Own.slot 0 rfl) rfl rfl rfl (Fill.cons 0 (List.Mem.head _) rfl (Own.slot 0 rfl) Fill.nil))) (fun _ => (xg_pinC ctnO (Own.slot 0 rfl) 4 rfl fun pv_96 => (xg_st [some (pin pa0 (aObj cl_Sender ns_Sender [(aD K (Cd.d (self.bits : Int))), (aD K (Cd.d (self.window : Int))), (aD K (Cd.d (self.low : Int))), (aD K (Cd.d (self.next_ : Int))), (pin pv_96 (aLD K (List.map Cd.d (self.queue : List (List Int))))), (aDK K (dD (self.kept : (List (Int × (List Int)))))), (aD K (Cd.d (self.sent : Int))), (aLD K (List.map Cd.d (self.again : List (T3 Int Int Int)))), (aD K (Cd.d (self.silent : Int)))])), none, none, none, none] rfl (xg_bind fun x_97 hx_97 =>
  (xg_ret (A := (aD K (Cd.d ((some (T4.mk x_97 self.next_ 0 ((List.length x_97 : Nat) : Int))) : (Option (T4 (List Int) Int Int Int)))))) (xe_weak (ρ1 := [some (pin pa0 (aObj cl_Sender ns_Sender [(aD K (Cd.d (self.bits : Int))), (aD K (Cd.d (self.window : Int))), (aD K (Cd.d (self.low : Int))), (aD K (Cd.d (self.next_ : Int))), (pin pv_96 (aLD K (List.map Cd.d (self.queue : List (List Int))))), (aDK K (dD (self.kept : (List (Int × (List Int)))))), (aD K (Cd.d (self.sent : Int))), (aLD K (List.map Cd.d (self.again : List (T3 Int Int Int)))), (aD K (Cd.d (self.silent : Int)))])), none, none, none, none]) (B' := (pin pa0 (o_Sender K cl_Sender cl_BearerError cl_NotValid self))) (xe_stE [some (pin pa0 (aObj cl_Sender ns_Sender [(aD K (Cd.d (self.bits : Int))), (aD K (Cd.d (self.window : Int))), (aD K (Cd.d (self.low : Int))), (aD K (Cd.d (self.next_ : Int))), (pin pv_96 (aLD K (List.map Cd.d (self.queue : List (List Int))))), (aDK K (dD (self.kept : (List (Int × (List Int)))))), (aD K (Cd.d (self.sent : Int))), (aLD K (List.map Cd.d (self.again : List (T3 Int Int Int)))), (aD K (Cd.d (self.silent : Int)))])), none, none, none, none] (xe_is (B := aD K (Cd.d (some (T4.mk x_97 self.next_ 0 ((List.length x_97 : Nat) : Int)) : (Option (T4 (List Int) Int Int Int))))) (xe_tup (ds := [Cd.d (x_97 : (List Int)), Cd.d (self.next_ : Int), Cd.d (0 : Int), Cd.d (((List.length x_97 : Nat) : Int) : Int)]) (xa_cons (xc_ix (xs := self.queue) (xe_fldV 4 (xe_nmV 0 rfl) (Own.slot 0 rfl) T_Sender.cl T_Sender.n_queue nd_Sender rfl rfl) xe_int (Rlm.ls (rmW (Own.kid ctnO (Own.slot 0 rfl) 4 rfl))) hx_97) (xa_cons (xe_fldD 3 (xe_nmV 0 rfl) (Own.slot 0 rfl) T_Sender.cl T_Sender.n_next nd_Sender rfl rfl) (xa_cons xe_int (xa_cons (xc_len (xs := x_97) (xc_ix (xs := self.queue) (xe_fldV 4 (xe_nmV 0 rfl) (Own.slot 0 rfl) T_Sender.cl T_Sender.n_queue nd_Sender rfl rfl) xe_int (Rlm.ls (rmW (Own.kid ctnO (Own.slot 0 rfl) 4 rfl))) hx_97) rlD m_len) xa_nil)))) (Nat.le_of_ble_eq_true rfl)) rfl)) 0 rfl (imp_pin (imp_obj (.cons imp_rfl (.cons imp_rfl (.cons imp_rfl (.cons imp_rfl (.cons (imp_pinned imp_rfl) (.cons imp_rfl (.cons imp_rfl (.cons imp_rfl (.cons imp_rfl .nil)))))))))))) (wk_k (wk_k (wk_n (wk_n (wk_n (wk_n wk_0))))))))))) (fun _ => (xg_st [some (pin pa0 (o_Sender K cl_Sender cl_BearerError cl_NotValid self)), none, none, none, none] rfl (xg_ret (A := (aD K (Cd.d ((none : (Option (T4 (List Int) Int Int Int))) : (Option (T4 (List Int) Int Int Int)))))) (xe_is (B := aD K (Cd.d (none : (Option (T4 (List Int) Int Int Int))))) xe_non rfl) (wk_k (wk_k (wk_n (wk_n (wk_n (wk_n wk_0))))))))))))))))))))
def m_Sender_fitting (self : M_Sender) (room : Int) : Option (Option ((T4 (List Int) Int Int Int) × Int)) :=
  (Option.bind (m_Sender_choice self) fun v_98 =>
  (if (Option.isNone v_98) = true then
  (some (none : (Option ((T4 (List Int) Int Int Int) × Int)))) else
  (Option.bind (v_98) fun u_99 =>
  (Option.bind (m_cut self.bits false u_99.b u_99.a u_99.c u_99.d room) fun v_100 =>
  (if (Option.isNone v_100) = true then
  (some (none : (Option ((T4 (List Int) Int Int Int) × Int)))) else
  (Option.bind (v_98) fun u_101 =>
  (Option.bind (v_100) fun u_102 =>
  (some (some ((u_101 : (T4 (List Int) Int Int Int)), (u_102.2 : Int)))))))))))
abbrev sp_Sender_fitting (K : PySem.W.Frag) (cl_Sender : Addr) (cl_BearerError : Addr) (cl_NotValid : Addr) : Sp := SpM (fun x : (M_Sender × Int) => [(o_Sender K cl_Sender cl_BearerError cl_NotValid x.1), (aD K (Cd.d (x.2 : Int)))]) (fun x => m_Sender_fitting x.1 x.2) (fun x (r : (Option ((T4 (List Int) Int Int Int) × Int))) => [some (o_Sender K cl_Sender cl_BearerError cl_NotValid x.1), none]) (fun _ r => (aD K (Cd.d (r : (Option ((T4 (List Int) Int Int Int) × Int))))))
abbrev s_Sender_fitting : Stmt := inClass (topS 22) 7
theorem sc_Sender_fitting : FnScope ["self", "room", "chosen", "found", "packet", "number", "start", "stop"] ["self", "room"] (defScope s_Sender_fitting) := ⟨rfl, rfl, rfl, by decide +kernel, rfl, by decide +kernel, by decide +kernel⟩
set_option maxHeartbeats 4000000 in
theorem ok_Sender_fitting {P : Program} {w : World} {K : PySem.W.Frag} {mg : Str → Option Value} {base : Heap} {f : Addr} {cl_Sender : Addr} {cl_BearerError : Addr} {cl_NotValid : Addr} {fd : FuncData} (F : Fun K "fitting" "Sender.fitting" s_Sender_fitting f fd) (T_Sender : CF_Sender K cl_Sender) (X_BearerError : ExK K mg "BearerError" cl_BearerError) (E_BearerError : ExcC K cl_BearerError) (X_NotValid : ExK K mg "NotValid" cl_NotValid) (E_NotValid : ExcC K cl_NotValid) (xm_NotValid_BearerError : PySem.W.exmOne K (.ref cl_NotValid) (.ref cl_BearerError) = some true) (xk_NotValid_NotValid : PySem.W.kitOne K (.ref cl_NotValid) (.ref cl_NotValid) = some true)  (c_Sender_choice : CalM P w K mg base 2 cl_Sender "choice" (sp_Sender_choice K cl_Sender cl_BearerError cl_NotValid)) (c_cut : Cal P w K mg base 5 "cut" (sp_cut K cl_Sender cl_BearerError cl_NotValid)) : FnOk P w K mg base CX0 6 f fd ["self", "room"] (sp_Sender_fitting K cl_Sender cl_BearerError cl_NotValid) :=
  fn_ok (k := 5) [true, false] F sc_Sender_fitting rfl (fun _ => rfl) (fun _ _ => rfl) fun x vs cdv A outer s H E hv hr => by
    match x, vs, hv with
    | (self, room), [pa0, pa1], _ =>
      have nd := sc_Sender_fitting.nd
      show XG _ _ [some (pin pa0 (o_Sender K cl_Sender cl_BearerError cl_NotValid self)), some (aD K (Cd.d (room : Int))), none, none, none, none, none, none] (m_Sender_fitting self room) (oR fun r : (Option ((T4 (List Int) Int Int Int) × Int)) => [some ((aD K (Cd.d (r : (Option ((T4 (List Int) Int Int Int) × Int)))))), some (pin pa0 (o_Sender K cl_Sender cl_BearerError cl_NotValid self)), none, none, none, none, none, none, none])
      unfold m_Sender_fitting
      exact (xg_st [some (pin pa0 (o_Sender K cl_Sender cl_BearerError cl_NotValid self)), some (aD K (Cd.d (room : Int))), none, none, none, none, none, none] rfl (xg_bind fun v_98 hv_98 =>
  (xg_asg 2 (A := aD K (Cd.d (v_98 : (Option (T4 (List Int) Int Int Int))))) (xe_methX0 (xx := self) c_Sender_choice T_Sender.cl nm_Sender_choice (hr.mono (by decide)) hv_98 (xe_nmV 0 rfl) (Own.slot 0 rfl) (Own.slot 0 rfl) rfl rfl rfl (Fill.cons 0 (List.Mem.head _) rfl (Own.slot 0 rfl) Fill.nil)) (xg_st [some (pin pa0 (o_Sender K cl_Sender cl_BearerError cl_NotValid self)), some (aD K (Cd.d (room : Int))), some (aD K (Cd.d (v_98 : (Option (T4 (List Int) Int Int Int))))), none, none, none, none, none] rfl (xg_ifR (u := []) (xt_k (xk_isNone (xe_nm 2 rfl) (isN_opt v_98))) (fun _ => (xg_st [some (pin pa0 (o_Sender K cl_Sender cl_BearerError cl_NotValid self)), some (aD K (Cd.d (room : Int))), some (aD K (Cd.d (v_98 : (Option (T4 (List Int) Int Int Int))))), none, none, none, none, none] rfl (xg_ret (A := (aD K (Cd.d ((none : (Option ((T4 (List Int) Int Int Int) × Int))) : (Option ((T4 (List Int) Int Int Int) × Int)))))) (xe_is (B := aD K (Cd.d (none : (Option ((T4 (List Int) Int Int Int) × Int))))) xe_non rfl) (wk_k (wk_k (wk_n (wk_n (wk_n (wk_n (wk_n (wk_n (wk_n wk_0)))))))))))) (fun _ => (xg_st [some (pin pa0 (o_Sender K cl_Sender cl_BearerError cl_NotValid self)), some (aD K (Cd.d (room : Int))), some (aD K (Cd.d (v_98 : (Option (T4 (List Int) Int Int Int))))), none, none, none, none, none] rfl (xg_bind fun u_99 hu_99 =>
  (xg_tgt (A := aD K (Cd.d (u_99 : (T4 (List Int) Int Int Int)))) (xe_unopt (xe_nm 2 rfl) hu_99) (xp_tup rfl (xps_cons (xp_nm 4) (xps_cons (xp_nm 5) (xps_cons (xp_nm 6) (xps_cons (xp_nm 7) xps_nil))))) (xg_st [some (pin pa0 (aObj cl_Sender ns_Sender [(aD K (Cd.d (self.bits : Int))), (aD K (Cd.d (self.window : Int))), (aD K (Cd.d (self.low : Int))), (aD K (Cd.d (self.next_ : Int))), (aLD K (List.map Cd.d (self.queue : List (List Int)))), (aDK K (dD (self.kept : (List (Int × (List Int)))))), (aD K (Cd.d (self.sent : Int))), (aLD K (List.map Cd.d (self.again : List (T3 Int Int Int)))), (aD K (Cd.d (self.silent : Int)))])), some (aD K (Cd.d (room : Int))), some (aD K (Cd.d (v_98 : (Option (T4 (List Int) Int Int Int))))), none, some (aD K (Cd.d (u_99.a : (List Int)))), some (aD K (Cd.d (u_99.b : Int))), some (aD K (Cd.d (u_99.c : Int))), some (aD K (Cd.d (u_99.d : Int)))] rfl (xg_bind fun v_100 hv_100 =>
  (xg_asg 3 (A := aD K (Cd.d (v_100 : (Option ((List Int) × Int))))) (xe_callX (xx := (self.bits, false, u_99.b, u_99.a, u_99.c, u_99.d, room)) c_cut (hr.mono (by decide)) hv_100 (xx_of (xa_cons (xe_fldD 0 (xe_nmV 0 rfl) (Own.slot 0 rfl) T_Sender.cl T_Sender.n_bits nd_Sender rfl rfl) (xa_cons xe_bl (xa_cons (xe_nm 5 rfl) (xa_cons (xe_nm 4 rfl) (xa_cons (xe_nm 6 rfl) (xa_cons (xe_nm 7 rfl) (xa_cons (xe_nm 1 rfl) xa_nil)))))))) rfl rfl Fill.nil) (xg_st [some (pin pa0 (o_Sender K cl_Sender cl_BearerError cl_NotValid self)), some (aD K (Cd.d (room : Int))), some (aD K (Cd.d (v_98 : (Option (T4 (List Int) Int Int Int))))), some (aD K (Cd.d (v_100 : (Option ((List Int) × Int))))), some (aD K (Cd.d (u_99.a : (List Int)))), some (aD K (Cd.d (u_99.b : Int))), some (aD K (Cd.d (u_99.c : Int))), some (aD K (Cd.d (u_99.d : Int)))] rfl (xg_ifR (u := []) (xt_k (xk_isNone (xe_nm 3 rfl) (isN_opt v_100))) (fun _ => (xg_st [some (pin pa0 (o_Sender K cl_Sender cl_BearerError cl_NotValid self)), some (aD K (Cd.d (room : Int))), some (aD K (Cd.d (v_98 : (Option (T4 (List Int) Int Int Int))))), some (aD K (Cd.d (v_100 : (Option ((List Int) × Int))))), some (aD K (Cd.d (u_99.a : (List Int)))), some (aD K (Cd.d (u_99.b : Int))), some (aD K (Cd.d (u_99.c : Int))), some (aD K (Cd.d (u_99.d : Int)))] rfl (xg_ret (A := (aD K (Cd.d ((none : (Option ((T4 (List Int) Int Int Int) × Int))) : (Option ((T4 (List Int) Int Int Int) × Int)))))) (xe_is (B := aD K (Cd.d (none : (Option ((T4 (List Int) Int Int Int) × Int))))) xe_non rfl) (wk_k (wk_k (wk_n (wk_n (wk_n (wk_n (wk_n (wk_n (wk_n wk_0)))))))))))) (fun _ => (xg_st [some (pin pa0 (o_Sender K cl_Sender cl_BearerError cl_NotValid self)), some (aD K (Cd.d (room : Int))), some (aD K (Cd.d (v_98 : (Option (T4 (List Int) Int Int Int))))), some (aD K (Cd.d (v_100 : (Option ((List Int) × Int))))), some (aD K (Cd.d (u_99.a : (List Int)))), some (aD K (Cd.d (u_99.b : Int))), some (aD K (Cd.d (u_99.c : Int))), some (aD K (Cd.d (u_99.d : Int)))] rfl (xg_bind fun u_101 hu_101 =>
  (xg_bind fun u_102 hu_102 =>
  (xg_ret (A := (aD K (Cd.d ((some ((u_101 : (T4 (List Int) Int Int Int)), (u_102.2 : Int))) : (Option ((T4 (List Int) Int Int Int) × Int)))))) (xe_is (B := aD K (Cd.d (some ((u_101 : (T4 (List Int) Int Int Int)), (u_102.2 : Int)) : (Option ((T4 (List Int) Int Int Int) × Int))))) (xe_tup (ds := [Cd.d (u_101 : (T4 (List Int) Int Int Int)), Cd.d (u_102.2 : Int)]) (xa_cons (xe_is (B := aD K (Cd.d (u_101 : (T4 (List Int) Int Int Int)))) (xe_unopt (xe_nm 2 rfl) hu_101) rfl) (xa_cons (xe_ixT (xe_unopt (xe_nm 3 rfl) hu_102) xe_int rtD rfl) xa_nil)) (Nat.le_of_ble_eq_true rfl)) rfl) (wk_k (wk_k (wk_n (wk_n (wk_n (wk_n (wk_n (wk_n (wk_n wk_0))))))))))))))))))))))))))))
def m_Sender_has_piece (self : M_Sender) (room : Int) : Option Bool :=
  (Option.bind (m_Sender_fitting self room) fun v_103 =>
  (some (!(Option.isNone v_103))))
abbrev sp_Sender_has_piece (K : PySem.W.Frag) (cl_Sender : Addr) (cl_BearerError : Addr) (cl_NotValid : Addr) : Sp := SpM (fun x : (M_Sender × Int) => [(o_Sender K cl_Sender cl_BearerError cl_NotValid x.1), (aD K (Cd.d (x.2 : Int)))]) (fun x => m_Sender_has_piece x.1 x.2) (fun x (r : Bool) => [some (o_Sender K cl_Sender cl_BearerError cl_NotValid x.1), none]) (fun _ r => (aD K (Cd.d (r : Bool))))
abbrev s_Sender_has_piece : Stmt := inClass (topS 22) 8
theorem sc_Sender_has_piece : FnScope ["self", "room"] ["self", "room"] (defScope s_Sender_has_piece) := ⟨rfl, rfl, rfl, by decide +kernel, rfl, by decide +kernel, by decide +kernel⟩
set_option maxHeartbeats 4000000 in
theorem ok_Sender_has_piece {P : Program} {w : World} {K : PySem.W.Frag} {mg : Str → Option Value} {base : Heap} {f : Addr} {cl_Sender : Addr} {cl_BearerError : Addr} {cl_NotValid : Addr} {fd : FuncData} (F : Fun K "has_piece" "Sender.has_piece" s_Sender_has_piece f fd) (T_Sender : CF_Sender K cl_Sender) (X_BearerError : ExK K mg "BearerError" cl_BearerError) (E_BearerError : ExcC K cl_BearerError) (X_NotValid : ExK K mg "NotValid" cl_NotValid) (E_NotValid : ExcC K cl_NotValid) (xm_NotValid_BearerError : PySem.W.exmOne K (.ref cl_NotValid) (.ref cl_BearerError) = some true) (xk_NotValid_NotValid : PySem.W.kitOne K (.ref cl_NotValid) (.ref cl_NotValid) = some true)  (c_Sender_fitting : CalM P w K mg base 6 cl_Sender "fitting" (sp_Sender_fitting K cl_Sender cl_BearerError cl_NotValid)) : FnOk P w K mg base CX0 7 f fd ["self", "room"] (sp_Sender_has_piece K cl_Sender cl_BearerError cl_NotValid) :=
  fn_ok (k := 6) [true, false] F sc_Sender_has_piece rfl (fun _ => rfl) (fun _ _ => rfl) fun x vs cdv A outer s H E hv hr => by
    match x, vs, hv with
    | (self, room), [pa0, pa1], _ =>
      have nd := sc_Sender_has_piece.nd
      show XG _ _ [some (pin pa0 (o_Sender K cl_Sender cl_BearerError cl_NotValid self)), some (aD K (Cd.d (room : Int)))] (m_Sender_has_piece self room) (oR fun r : Bool => [some ((aD K (Cd.d (r : Bool)))), some (pin pa0 (o_Sender K cl_Sender cl_BearerError cl_NotValid self)), none])
      unfold m_Sender_has_piece
      exact (xg_st [some (pin pa0 (o_Sender K cl_Sender cl_BearerError cl_NotValid self)), some (aD K (Cd.d (room : Int)))] rfl (xg_bind fun v_103 hv_103 =>
  (xg_ret (A := (aD K (Cd.d ((!(Option.isNone v_103)) : Bool)))) (xe_k (xk_notNone (xe_methX (xx := (self, room)) c_Sender_fitting T_Sender.cl nm_Sender_fitting (hr.mono (by decide)) hv_103 (xe_nmV 0 rfl) (Own.slot 0 rfl) (xx_of (xa_cons (xe_nm 1 rfl) xa_nil)) (Own.slot 0 rfl) rfl rfl rfl rfl (Fill.cons 0 (List.Mem.head _) rfl (Own.slot 0 rfl) Fill.nil)) (isN_opt v_103))) (wk_k (wk_k (wk_n wk_0))))))
def m_Sender_send (self : M_Sender) (room : Int) : Option ((Option (List Int)) × M_Sender) :=
  (Option.bind (m_Sender_fitting self room) fun v_104 =>
  (if (Option.isNone v_104) = true then
  (some ((none : (Option (List Int))), self)) else
  (Option.bind (v_104) fun u_105 =>
  (Option.bind (if (!List.isEmpty self.again) = true then
  (Option.bind (if (decide (u_105.2 < u_105.1.d)) = true then
  (Option.bind (guardO (List.length [(T3.mk u_105.1.b u_105.2 u_105.1.d)] + List.length (cutL self.again (some 1) none) ≤ 1000000)) fun g_126 =>
  (some { self with again := ([(T3.mk u_105.1.b u_105.2 u_105.1.d)] ++ (cutL self.again (some 1) none)) })) else
  (some { self with again := (cutL self.again (some 1) none) })) fun s_124 =>
  (some s_124)) else
  (Option.bind (if (decide ((u_105.1.b : Int) = self.next_)) = true then
  (Option.bind (guardO (List.length self.kept < 1000000)) fun g_133 =>
  (some { self with next_ := (self.next_ + 1), queue := (cutL self.queue (some 1) none), kept := (dPut self.kept u_105.1.b u_105.1.a) })) else
  (some self)) fun s_130 =>
  (some { s_130 with sent := u_105.2 }))) fun s_120 =>
  (Option.bind (m_Sender_has_work s_120) fun v_134 =>
  (Option.bind (m_cut s_120.bits (!v_134) u_105.1.b u_105.1.a u_105.1.c u_105.2 room) fun v_135 =>
  (Option.bind (v_135) fun u_136 =>
  (some ((some u_136.1), s_120)))))))))
abbrev sp_Sender_send (K : PySem.W.Frag) (cl_Sender : Addr) (cl_BearerError : Addr) (cl_NotValid : Addr) : Sp := SpM (fun x : (M_Sender × Int) => [(o_Sender K cl_Sender cl_BearerError cl_NotValid x.1), (aD K (Cd.d (x.2 : Int)))]) (fun x => m_Sender_send x.1 x.2) (fun x (r : ((Option (List Int)) × M_Sender)) => [some (o_Sender K cl_Sender cl_BearerError cl_NotValid r.2), none]) (fun _ r => (aD K (Cd.d (r.1 : (Option (List Int))))))
abbrev s_Sender_send : Stmt := inClass (topS 22) 9
theorem sc_Sender_send : FnScope ["self", "room", "found", "end", "packet", "number", "start", "stop"] ["self", "room"] (defScope s_Sender_send) := ⟨rfl, rfl, rfl, by decide +kernel, rfl, by decide +kernel, by decide +kernel⟩
set_option maxHeartbeats 4000000 in
theorem ok_Sender_send {P : Program} {w : World} {K : PySem.W.Frag} {mg : Str → Option Value} {base : Heap} {f : Addr} {cl_Sender : Addr} {cl_BearerError : Addr} {cl_NotValid : Addr} {fd : FuncData} (F : Fun K "send" "Sender.send" s_Sender_send f fd) (T_Sender : CF_Sender K cl_Sender) (X_BearerError : ExK K mg "BearerError" cl_BearerError) (E_BearerError : ExcC K cl_BearerError) (X_NotValid : ExK K mg "NotValid" cl_NotValid) (E_NotValid : ExcC K cl_NotValid) (xm_NotValid_BearerError : PySem.W.exmOne K (.ref cl_NotValid) (.ref cl_BearerError) = some true) (xk_NotValid_NotValid : PySem.W.kitOne K (.ref cl_NotValid) (.ref cl_NotValid) = some true)  (c_Sender_fitting : CalM P w K mg base 6 cl_Sender "fitting" (sp_Sender_fitting K cl_Sender cl_BearerError cl_NotValid)) (c_Sender_has_work : CalM P w K mg base 2 cl_Sender "has_work" (sp_Sender_has_work K cl_Sender cl_BearerError cl_NotValid)) (c_cut : Cal P w K mg base 5 "cut" (sp_cut K cl_Sender cl_BearerError cl_NotValid)) : FnOk P w K mg base CX0 7 f fd ["self", "room"] (sp_Sender_send K cl_Sender cl_BearerError cl_NotValid) :=
  fn_ok (k := 6) [true, false] F sc_Sender_send rfl (fun _ => rfl) (fun _ _ => rfl) fun x vs cdv A outer s H E hv hr => by
    match x, vs, hv with
    | (self, room), [pa0, pa1], _ =>
      have nd := sc_Sender_send.nd
      show XG _ _ [some (pin pa0 (o_Sender K cl_Sender cl_BearerError cl_NotValid self)), some (aD K (Cd.d (room : Int))), none, none, none, none, none, none] (m_Sender_send self room) (oR fun r : ((Option (List Int)) × M_Sender) => [some ((aD K (Cd.d (r.1 : (Option (List Int)))))), some (pin pa0 (o_Sender K cl_Sender cl_BearerError cl_NotValid r.2)), none, none, none, none, none, none, none])
      unfold m_Sender_send
      exact (xg_st [some (pin pa0 (o_Sender K cl_Sender cl_BearerError cl_NotValid self)), some (aD K (Cd.d (room : Int))), none, none, none, none, none, none] rfl (xg_bind fun v_104 hv_104 =>
  (xg_asg 2 (A := aD K (Cd.d (v_104 : (Option ((T4 (List Int) Int Int Int) × Int))))) (xe_methX (xx := (self, room)) c_Sender_fitting T_Sender.cl nm_Sender_fitting (hr.mono (by decide)) hv_104 (xe_nmV 0 rfl) (Own.slot 0 rfl) (xx_of (xa_cons (xe_nm 1 rfl) xa_nil)) (Own.slot 0 rfl) rfl rfl rfl rfl (Fill.cons 0 (List.Mem.head _) rfl (Own.slot 0 rfl) Fill.nil)) (xg_st [some (pin pa0 (o_Sender K cl_Sender cl_BearerError cl_NotValid self)), some (aD K (Cd.d (room : Int))), some (aD K (Cd.d (v_104 : (Option ((T4 (List Int) Int Int Int) × Int))))), none, none, none, none, none] rfl (xg_ifR (u := []) (xt_k (xk_isNone (xe_nm 2 rfl) (isN_opt v_104))) (fun _ => (xg_st [some (pin pa0 (o_Sender K cl_Sender cl_BearerError cl_NotValid self)), some (aD K (Cd.d (room : Int))), some (aD K (Cd.d (v_104 : (Option ((T4 (List Int) Int Int Int) × Int))))), none, none, none, none, none] rfl (xg_ret (A := (aD K (Cd.d ((none : (Option (List Int))) : (Option (List Int)))))) (xe_is (B := aD K (Cd.d (none : (Option (List Int))))) xe_non rfl) (wk_k (wk_k (wk_n (wk_n (wk_n (wk_n (wk_n (wk_n (wk_n wk_0)))))))))))) (fun _ => (xg_st [some (pin pa0 (o_Sender K cl_Sender cl_BearerError cl_NotValid self)), some (aD K (Cd.d (room : Int))), some (aD K (Cd.d (v_104 : (Option ((T4 (List Int) Int Int Int) × Int))))), none, none, none, none, none] rfl (xg_bind fun u_105 hu_105 =>
  (xg_tgt (A := aD K (Cd.d (u_105 : ((T4 (List Int) Int Int Int) × Int)))) (xe_unopt (xe_nm 2 rfl) hu_105) (xp_tup rfl (xps_cons (xp_tup rfl (xps_cons (xp_nm 4) (xps_cons (xp_nm 5) (xps_cons (xp_nm 6) (xps_cons (xp_nm 7) xps_nil))))) (xps_cons (xp_nm 3) xps_nil))) (xg_pinC ctnO (Own.slot 0 rfl) 7 rfl fun pv_106 => (xg_st [some (pin pa0 (aObj cl_Sender ns_Sender [(aD K (Cd.d (self.bits : Int))), (aD K (Cd.d (self.window : Int))), (aD K (Cd.d (self.low : Int))), (aD K (Cd.d (self.next_ : Int))), (aLD K (List.map Cd.d (self.queue : List (List Int)))), (aDK K (dD (self.kept : (List (Int × (List Int)))))), (aD K (Cd.d (self.sent : Int))), (pin pv_106 (aLD K (List.map Cd.d (self.again : List (T3 Int Int Int))))), (aD K (Cd.d (self.silent : Int)))])), some (aD K (Cd.d (room : Int))), some (aD K (Cd.d (v_104 : (Option ((T4 (List Int) Int Int Int) × Int))))), some (aD K (Cd.d (u_105.2 : Int))), some (aD K (Cd.d (u_105.1.a : (List Int)))), some (aD K (Cd.d (u_105.1.b : Int))), some (aD K (Cd.d (u_105.1.c : Int))), some (aD K (Cd.d (u_105.1.d : Int)))] rfl (xg_if (N := (fun s_120 : M_Sender => [some (pin pa0 (o_Sender K cl_Sender cl_BearerError cl_NotValid s_120)), some (aD K (Cd.d (room : Int))), some (aD K (Cd.d (v_104 : (Option ((T4 (List Int) Int Int Int) × Int))))), some (aD K (Cd.d (u_105.2 : Int))), some (aD K (Cd.d (u_105.1.a : (List Int)))), some (aD K (Cd.d (u_105.1.b : Int))), some (aD K (Cd.d (u_105.1.c : Int))), some (aD K (Cd.d (u_105.1.d : Int)))])) (xt_weakE (ρ1 := [some (pin pa0 (aObj cl_Sender ns_Sender [(aD K (Cd.d (self.bits : Int))), (aD K (Cd.d (self.window : Int))), (aD K (Cd.d (self.low : Int))), (aD K (Cd.d (self.next_ : Int))), (aLD K (List.map Cd.d (self.queue : List (List Int)))), (aDK K (dD (self.kept : (List (Int × (List Int)))))), (aD K (Cd.d (self.sent : Int))), (pin pv_106 (aLD K (List.map Cd.d (self.again : List (T3 Int Int Int))))), (aD K (Cd.d (self.silent : Int)))])), some (aD K (Cd.d (room : Int))), some (aD K (Cd.d (v_104 : (Option ((T4 (List Int) Int Int Int) × Int))))), some (aD K (Cd.d (u_105.2 : Int))), some (aD K (Cd.d (u_105.1.a : (List Int)))), some (aD K (Cd.d (u_105.1.b : Int))), some (aD K (Cd.d (u_105.1.c : Int))), some (aD K (Cd.d (u_105.1.d : Int)))]) (B' := (pin pa0 (o_Sender K cl_Sender cl_BearerError cl_NotValid self))) (xt_stE [some (pin pa0 (aObj cl_Sender ns_Sender [(aD K (Cd.d (self.bits : Int))), (aD K (Cd.d (self.window : Int))), (aD K (Cd.d (self.low : Int))), (aD K (Cd.d (self.next_ : Int))), (aLD K (List.map Cd.d (self.queue : List (List Int)))), (aDK K (dD (self.kept : (List (Int × (List Int)))))), (aD K (Cd.d (self.sent : Int))), (pin pv_106 (aLD K (List.map Cd.d (self.again : List (T3 Int Int Int))))), (aD K (Cd.d (self.silent : Int)))])), some (aD K (Cd.d (room : Int))), some (aD K (Cd.d (v_104 : (Option ((T4 (List Int) Int Int Int) × Int))))), some (aD K (Cd.d (u_105.2 : Int))), some (aD K (Cd.d (u_105.1.a : (List Int)))), some (aD K (Cd.d (u_105.1.b : Int))), some (aD K (Cd.d (u_105.1.c : Int))), some (aD K (Cd.d (u_105.1.d : Int)))] (xc_truth (xs := self.again) (xe_fldV 7 (xe_nmV 0 rfl) (Own.slot 0 rfl) T_Sender.cl T_Sender.n_again nd_Sender rfl rfl) (Rls.sq (Rlm.ls (rmW (Own.kid ctnO (Own.slot 0 rfl) 7 rfl)))) (Rlm.ls (rmW (Own.kid ctnO (Own.slot 0 rfl) 7 rfl))))) 0 rfl (imp_pin (imp_obj (.cons imp_rfl (.cons imp_rfl (.cons imp_rfl (.cons imp_rfl (.cons imp_rfl (.cons imp_rfl (.cons imp_rfl (.cons (imp_pinned imp_rfl) (.cons imp_rfl .nil)))))))))))) (fun _ => (xg_pinC ctnO (Own.slot 0 rfl) 7 rfl fun pv_121 => (xg_st [some (pin pa0 (aObj cl_Sender ns_Sender [(aD K (Cd.d (self.bits : Int))), (aD K (Cd.d (self.window : Int))), (aD K (Cd.d (self.low : Int))), (aD K (Cd.d (self.next_ : Int))), (aLD K (List.map Cd.d (self.queue : List (List Int)))), (aDK K (dD (self.kept : (List (Int × (List Int)))))), (aD K (Cd.d (self.sent : Int))), (pin pv_121 (aLD K (List.map Cd.d (self.again : List (T3 Int Int Int))))), (aD K (Cd.d (self.silent : Int)))])), some (aD K (Cd.d (room : Int))), some (aD K (Cd.d (v_104 : (Option ((T4 (List Int) Int Int Int) × Int))))), some (aD K (Cd.d (u_105.2 : Int))), some (aD K (Cd.d (u_105.1.a : (List Int)))), some (aD K (Cd.d (u_105.1.b : Int))), some (aD K (Cd.d (u_105.1.c : Int))), some (aD K (Cd.d (u_105.1.d : Int)))] rfl (xg_fld 7 (B := (aLD K (List.map Cd.d ((cutL self.again (some 1) none) : List (T3 Int Int Int))))) (xc_slice (xs := self.again) (i := (some 1)) (j := none) (xe_fldV 7 (xe_nmV 0 rfl) (Own.slot 0 rfl) T_Sender.cl T_Sender.n_again nd_Sender rfl rfl) (xo_some xe_int) xo_none (Rlm.ls (rmW (Own.kid ctnO (Own.slot 0 rfl) 7 rfl)))) (xe_nmV 0 rfl) (Own.slot 0 rfl) T_Sender.cl T_Sender.n_again nd_Sender rfl (xg_st [some (pin pa0 (o_Sender K cl_Sender cl_BearerError cl_NotValid { self with again := (cutL self.again (some 1) none) })), some (aD K (Cd.d (room : Int))), some (aD K (Cd.d (v_104 : (Option ((T4 (List Int) Int Int Int) × Int))))), some (aD K (Cd.d (u_105.2 : Int))), some (aD K (Cd.d (u_105.1.a : (List Int)))), some (aD K (Cd.d (u_105.1.b : Int))), some (aD K (Cd.d (u_105.1.c : Int))), some (aD K (Cd.d (u_105.1.d : Int)))] rfl (xg_if (N := (fun s_124 : M_Sender => [some (pin pa0 (o_Sender K cl_Sender cl_BearerError cl_NotValid s_124)), some (aD K (Cd.d (room : Int))), some (aD K (Cd.d (v_104 : (Option ((T4 (List Int) Int Int Int) × Int))))), some (aD K (Cd.d (u_105.2 : Int))), some (aD K (Cd.d (u_105.1.a : (List Int)))), some (aD K (Cd.d (u_105.1.b : Int))), some (aD K (Cd.d (u_105.1.c : Int))), some (aD K (Cd.d (u_105.1.d : Int)))])) (xt_k (xk_lt (xe_nm 3 rfl) (xe_nm 7 rfl))) (fun _ => (xg_pinC ctnO (Own.slot 0 rfl) 7 rfl fun pv_125 => (xg_st [some (pin pa0 (aObj cl_Sender ns_Sender [(aD K (Cd.d (self.bits : Int))), (aD K (Cd.d (self.window : Int))), (aD K (Cd.d (self.low : Int))), (aD K (Cd.d (self.next_ : Int))), (aLD K (List.map Cd.d (self.queue : List (List Int)))), (aDK K (dD (self.kept : (List (Int × (List Int)))))), (aD K (Cd.d (self.sent : Int))), (pin pv_125 (aLD K (List.map Cd.d ((cutL self.again (some 1) none) : List (T3 Int Int Int))))), (aD K (Cd.d (self.silent : Int)))])), some (aD K (Cd.d (room : Int))), some (aD K (Cd.d (v_104 : (Option ((T4 (List Int) Int Int Int) × Int))))), some (aD K (Cd.d (u_105.2 : Int))), some (aD K (Cd.d (u_105.1.a : (List Int)))), some (aD K (Cd.d (u_105.1.b : Int))), some (aD K (Cd.d (u_105.1.c : Int))), some (aD K (Cd.d (u_105.1.d : Int)))] rfl (xg_bind fun g_126 hg_126 =>
  (xg_fld 7 (B := (aLD K (List.map Cd.d (([(T3.mk u_105.1.b u_105.2 u_105.1.d)] ++ (cutL self.again (some 1) none)) : List (T3 Int Int Int))))) (xc_cat (xs := [(T3.mk u_105.1.b u_105.2 u_105.1.d)]) (ys := (cutL self.again (some 1) none)) (xe_lstD (xs := ([(T3.mk u_105.1.b u_105.2 u_105.1.d)] : List (T3 Int Int Int))) (xa_cons (xe_tup (ds := [Cd.d (u_105.1.b : Int), Cd.d (u_105.2 : Int), Cd.d (u_105.1.d : Int)]) (xa_cons (xe_nm 5 rfl) (xa_cons (xe_nm 3 rfl) (xa_cons (xe_nm 7 rfl) xa_nil))) (Nat.le_of_ble_eq_true rfl)) xa_nil) (Nat.le_of_ble_eq_true rfl)) (xe_fldV 7 (xe_nmV 0 rfl) (Own.slot 0 rfl) T_Sender.cl T_Sender.n_again nd_Sender rfl rfl) rmL (rmW (Own.kid ctnO (Own.slot 0 rfl) 7 rfl)) (sz_of (guardO_eq hg_126))) (xe_nmV 0 rfl) (Own.slot 0 rfl) T_Sender.cl T_Sender.n_again nd_Sender rfl (xg_nilS (wk_k (wk_k (wk_k (wk_k (wk_k (wk_k (wk_k (wk_k wk_0)))))))))))))) (fun _ => (xg_nilS (wk_k (wk_k (wk_k (wk_k (wk_k (wk_k (wk_k (wk_k wk_0)))))))))) (fun s_124 => (xg_nilS (wk_k (wk_k (wk_k (wk_k (wk_k (wk_k (wk_k (wk_k wk_0)))))))))))))))) (fun _ => (xg_st [some (pin pa0 (aObj cl_Sender ns_Sender [(aD K (Cd.d (self.bits : Int))), (aD K (Cd.d (self.window : Int))), (aD K (Cd.d (self.low : Int))), (aD K (Cd.d (self.next_ : Int))), (aLD K (List.map Cd.d (self.queue : List (List Int)))), (aDK K (dD (self.kept : (List (Int × (List Int)))))), (aD K (Cd.d (self.sent : Int))), (aLD K (List.map Cd.d (self.again : List (T3 Int Int Int)))), (aD K (Cd.d (self.silent : Int)))])), some (aD K (Cd.d (room : Int))), some (aD K (Cd.d (v_104 : (Option ((T4 (List Int) Int Int Int) × Int))))), some (aD K (Cd.d (u_105.2 : Int))), some (aD K (Cd.d (u_105.1.a : (List Int)))), some (aD K (Cd.d (u_105.1.b : Int))), some (aD K (Cd.d (u_105.1.c : Int))), some (aD K (Cd.d (u_105.1.d : Int)))] rfl (xg_if (N := (fun s_130 : M_Sender => [some (pin pa0 (o_Sender K cl_Sender cl_BearerError cl_NotValid s_130)), some (aD K (Cd.d (room : Int))), some (aD K (Cd.d (v_104 : (Option ((T4 (List Int) Int Int Int) × Int))))), some (aD K (Cd.d (u_105.2 : Int))), some (aD K (Cd.d (u_105.1.a : (List Int)))), some (aD K (Cd.d (u_105.1.b : Int))), some (aD K (Cd.d (u_105.1.c : Int))), some (aD K (Cd.d (u_105.1.d : Int)))])) (xt_k (xkc_eq (x := (u_105.1.b : Int)) (y := (self.next_ : Int)) hr.units (xe_nm 5 rfl) (xe_fldD 3 (xe_nmV 0 rfl) (Own.slot 0 rfl) T_Sender.cl T_Sender.n_next nd_Sender rfl rfl) rdD rdD)) (fun _ => (xg_pinC ctnO (Own.slot 0 rfl) 4 rfl fun pv_131 => (xg_st [some (pin pa0 (aObj cl_Sender ns_Sender [(aD K (Cd.d (self.bits : Int))), (aD K (Cd.d (self.window : Int))), (aD K (Cd.d (self.low : Int))), (aD K (Cd.d (self.next_ : Int))), (pin pv_131 (aLD K (List.map Cd.d (self.queue : List (List Int))))), (aDK K (dD (self.kept : (List (Int × (List Int)))))), (aD K (Cd.d (self.sent : Int))), (aLD K (List.map Cd.d (self.again : List (T3 Int Int Int)))), (aD K (Cd.d (self.silent : Int)))])), some (aD K (Cd.d (room : Int))), some (aD K (Cd.d (v_104 : (Option ((T4 (List Int) Int Int Int) × Int))))), some (aD K (Cd.d (u_105.2 : Int))), some (aD K (Cd.d (u_105.1.a : (List Int)))), some (aD K (Cd.d (u_105.1.b : Int))), some (aD K (Cd.d (u_105.1.c : Int))), some (aD K (Cd.d (u_105.1.d : Int)))] rfl (xg_fld 4 (B := (aLD K (List.map Cd.d ((cutL self.queue (some 1) none) : List (List Int))))) (xc_slice (xs := self.queue) (i := (some 1)) (j := none) (xe_fldV 4 (xe_nmV 0 rfl) (Own.slot 0 rfl) T_Sender.cl T_Sender.n_queue nd_Sender rfl rfl) (xo_some xe_int) xo_none (Rlm.ls (rmW (Own.kid ctnO (Own.slot 0 rfl) 4 rfl)))) (xe_nmV 0 rfl) (Own.slot 0 rfl) T_Sender.cl T_Sender.n_queue nd_Sender rfl (xg_pinC ctnO (Own.slot 0 rfl) 5 rfl fun pv_132 => (xg_st [some (pin pa0 (aObj cl_Sender ns_Sender [(aD K (Cd.d (self.bits : Int))), (aD K (Cd.d (self.window : Int))), (aD K (Cd.d (self.low : Int))), (aD K (Cd.d (self.next_ : Int))), (aLD K (List.map Cd.d ((cutL self.queue (some 1) none) : List (List Int)))), (pin pv_132 (aDK K (dD (self.kept : (List (Int × (List Int))))))), (aD K (Cd.d (self.sent : Int))), (aLD K (List.map Cd.d (self.again : List (T3 Int Int Int)))), (aD K (Cd.d (self.silent : Int)))])), some (aD K (Cd.d (room : Int))), some (aD K (Cd.d (v_104 : (Option ((T4 (List Int) Int Int Int) × Int))))), some (aD K (Cd.d (u_105.2 : Int))), some (aD K (Cd.d (u_105.1.a : (List Int)))), some (aD K (Cd.d (u_105.1.b : Int))), some (aD K (Cd.d (u_105.1.c : Int))), some (aD K (Cd.d (u_105.1.d : Int)))] rfl (xg_bind fun g_133 hg_133 =>
  (xg_dput (kvs := self.kept) (x := u_105.1.a) hr.units (guardO_eq hg_133) (xe_nm 4 rfl) (xe_fldV 5 (xe_nmV 0 rfl) (Own.slot 0 rfl) T_Sender.cl T_Sender.n_kept nd_Sender rfl rfl) (xe_nm 5 rfl) (Own.kid ctnO (Own.slot 0 rfl) 5 rfl) (by exact xg_weak (ρ := [some (pin pa0 (aObj cl_Sender ns_Sender [(aD K (Cd.d (self.bits : Int))), (aD K (Cd.d (self.window : Int))), (aD K (Cd.d (self.low : Int))), (aD K (Cd.d (self.next_ : Int))), (aLD K (List.map Cd.d ((cutL self.queue (some 1) none) : List (List Int)))), (pin pv_132 (aDK K (dD ((dPut self.kept u_105.1.b u_105.1.a) : (List (Int × (List Int))))))), (aD K (Cd.d (self.sent : Int))), (aLD K (List.map Cd.d (self.again : List (T3 Int Int Int)))), (aD K (Cd.d (self.silent : Int)))])), some (aD K (Cd.d (room : Int))), some (aD K (Cd.d (v_104 : (Option ((T4 (List Int) Int Int Int) × Int))))), some (aD K (Cd.d (u_105.2 : Int))), some (aD K (Cd.d (u_105.1.a : (List Int)))), some (aD K (Cd.d (u_105.1.b : Int))), some (aD K (Cd.d (u_105.1.c : Int))), some (aD K (Cd.d (u_105.1.d : Int)))]) (B := (pin pa0 (o_Sender K cl_Sender cl_BearerError cl_NotValid { self with queue := (cutL self.queue (some 1) none), kept := (dPut self.kept u_105.1.b u_105.1.a) }))) 0 rfl (imp_pin (imp_obj (.cons imp_rfl (.cons imp_rfl (.cons imp_rfl (.cons imp_rfl (.cons imp_rfl (.cons (imp_pinned imp_rfl) (.cons imp_rfl (.cons imp_rfl (.cons imp_rfl .nil))))))))))) (xg_st [some (pin pa0 (o_Sender K cl_Sender cl_BearerError cl_NotValid { self with queue := (cutL self.queue (some 1) none), kept := (dPut self.kept u_105.1.b u_105.1.a) })), some (aD K (Cd.d (room : Int))), some (aD K (Cd.d (v_104 : (Option ((T4 (List Int) Int Int Int) × Int))))), some (aD K (Cd.d (u_105.2 : Int))), some (aD K (Cd.d (u_105.1.a : (List Int)))), some (aD K (Cd.d (u_105.1.b : Int))), some (aD K (Cd.d (u_105.1.c : Int))), some (aD K (Cd.d (u_105.1.d : Int)))] rfl (xg_fldA 3 in_add rAdd_of (xe_nmV 0 rfl) (Own.slot 0 rfl) rfl xe_int (Own.slot 0 rfl) T_Sender.cl T_Sender.n_next nd_Sender rfl (xg_nilS (wk_k (wk_k (wk_k (wk_k (wk_k (wk_k (wk_k (wk_k wk_0)))))))))))))))))))) (fun _ => (xg_nilS (wk_k (wk_k (wk_k (wk_k (wk_k (wk_k (wk_k (wk_k wk_0)))))))))) (fun s_130 => (xg_st [some (pin pa0 (o_Sender K cl_Sender cl_BearerError cl_NotValid s_130)), some (aD K (Cd.d (room : Int))), some (aD K (Cd.d (v_104 : (Option ((T4 (List Int) Int Int Int) × Int))))), some (aD K (Cd.d (u_105.2 : Int))), some (aD K (Cd.d (u_105.1.a : (List Int)))), some (aD K (Cd.d (u_105.1.b : Int))), some (aD K (Cd.d (u_105.1.c : Int))), some (aD K (Cd.d (u_105.1.d : Int)))] rfl (xg_fld 6 (B := (aD K (Cd.d (u_105.2 : Int)))) (xe_nm 3 rfl) (xe_nmV 0 rfl) (Own.slot 0 rfl) T_Sender.cl T_Sender.n_sent nd_Sender rfl (xg_nilS (wk_k (wk_k (wk_k (wk_k (wk_k (wk_k (wk_k (wk_k wk_0))))))))))))))) (fun s_120 => (xg_st [some (pin pa0 (aObj cl_Sender ns_Sender [(aD K (Cd.d (s_120.bits : Int))), (aD K (Cd.d (s_120.window : Int))), (aD K (Cd.d (s_120.low : Int))), (aD K (Cd.d (s_120.next_ : Int))), (aLD K (List.map Cd.d (s_120.queue : List (List Int)))), (aDK K (dD (s_120.kept : (List (Int × (List Int)))))), (aD K (Cd.d (s_120.sent : Int))), (aLD K (List.map Cd.d (s_120.again : List (T3 Int Int Int)))), (aD K (Cd.d (s_120.silent : Int)))])), some (aD K (Cd.d (room : Int))), some (aD K (Cd.d (v_104 : (Option ((T4 (List Int) Int Int Int) × Int))))), some (aD K (Cd.d (u_105.2 : Int))), some (aD K (Cd.d (u_105.1.a : (List Int)))), some (aD K (Cd.d (u_105.1.b : Int))), some (aD K (Cd.d (u_105.1.c : Int))), some (aD K (Cd.d (u_105.1.d : Int)))] rfl (xg_bind fun v_134 hv_134 =>
  (xg_bind fun v_135 hv_135 =>
  (xg_bind fun u_136 hu_136 =>
  (xg_ret (A := (aD K (Cd.d ((some u_136.1) : (Option (List Int)))))) (xe_is (B := aD K (Cd.d (some u_136.1 : (Option (List Int))))) (xe_ixT (xe_unopt (xe_callX (xx := (s_120.bits, (!v_134), u_105.1.b, u_105.1.a, u_105.1.c, u_105.2, room)) c_cut (hr.mono (by decide)) hv_135 (xx_of (xa_cons (xe_fldD 0 (xe_nmV 0 rfl) (Own.slot 0 rfl) T_Sender.cl T_Sender.n_bits nd_Sender rfl rfl) (xa_cons (xe_not (xe_methX0 (xx := s_120) c_Sender_has_work T_Sender.cl nm_Sender_has_work (hr.mono (by decide)) hv_134 (xe_nmV 0 rfl) (Own.slot 0 rfl) (Own.slot 0 rfl) rfl rfl rfl (Fill.cons 0 (List.Mem.head _) rfl (Own.slot 0 rfl) Fill.nil))) (xa_cons (xe_nm 5 rfl) (xa_cons (xe_nm 4 rfl) (xa_cons (xe_nm 6 rfl) (xa_cons (xe_nm 3 rfl) (xa_cons (xe_nm 1 rfl) xa_nil)))))))) rfl rfl Fill.nil) hu_136) xe_int rtD rfl) rfl) (wk_k (wk_k (wk_n (wk_n (wk_n (wk_n (wk_n (wk_n (wk_n wk_0)))))))))))))))))))))))))))
def m_Sender_true_number (self : M_Sender) (number : Int) : Option Int :=
  (Option.bind (guardO (PowOk 1 self.bits)) fun g_137 =>
  (Option.bind (modM (number - self.low) (1 * 2 ^ Int.toNat self.bits)) fun r_138 =>
  (some (self.low + r_138))))
abbrev sp_Sender_true_number (K : PySem.W.Frag) (cl_Sender : Addr) (cl_BearerError : Addr) (cl_NotValid : Addr) : Sp := SpM (fun x : (M_Sender × Int) => [(o_Sender K cl_Sender cl_BearerError cl_NotValid x.1), (aD K (Cd.d (x.2 : Int)))]) (fun x => m_Sender_true_number x.1 x.2) (fun x (r : Int) => [some (o_Sender K cl_Sender cl_BearerError cl_NotValid x.1), none]) (fun _ r => (aD K (Cd.d (r : Int))))
abbrev s_Sender_true_number : Stmt := inClass (topS 22) 10
theorem sc_Sender_true_number : FnScope ["self", "number"] ["self", "number"] (defScope s_Sender_true_number) := ⟨rfl, rfl, rfl, by decide +kernel, rfl, by decide +kernel, by decide +kernel⟩
set_option maxHeartbeats 4000000 in
theorem ok_Sender_true_number {P : Program} {w : World} {K : PySem.W.Frag} {mg : Str → Option Value} {base : Heap} {f : Addr} {cl_Sender : Addr} {cl_BearerError : Addr} {cl_NotValid : Addr} {fd : FuncData} (F : Fun K "true_number" "Sender.true_number" s_Sender_true_number f fd) (T_Sender : CF_Sender K cl_Sender) (X_BearerError : ExK K mg "BearerError" cl_BearerError) (E_BearerError : ExcC K cl_BearerError) (X_NotValid : ExK K mg "NotValid" cl_NotValid) (E_NotValid : ExcC K cl_NotValid) (xm_NotValid_BearerError : PySem.W.exmOne K (.ref cl_NotValid) (.ref cl_BearerError) = some true) (xk_NotValid_NotValid : PySem.W.kitOne K (.ref cl_NotValid) (.ref cl_NotValid) = some true)  : FnOk P w K mg base CX0 1 f fd ["self", "number"] (sp_Sender_true_number K cl_Sender cl_BearerError cl_NotValid) :=
  fn_ok (k := 0) [true, false] F sc_Sender_true_number rfl (fun _ => rfl) (fun _ _ => rfl) fun x vs cdv A outer s H E hv hr => by
    match x, vs, hv with
    | (self, number), [pa0, pa1], _ =>
      have nd := sc_Sender_true_number.nd
      show XG _ _ [some (pin pa0 (o_Sender K cl_Sender cl_BearerError cl_NotValid self)), some (aD K (Cd.d (number : Int)))] (m_Sender_true_number self number) (oR fun r : Int => [some ((aD K (Cd.d (r : Int)))), some (pin pa0 (o_Sender K cl_Sender cl_BearerError cl_NotValid self)), none])
      unfold m_Sender_true_number
      exact (xg_st [some (pin pa0 (aObj cl_Sender ns_Sender [(aD K (Cd.d (self.bits : Int))), (aD K (Cd.d (self.window : Int))), (aD K (Cd.d (self.low : Int))), (aD K (Cd.d (self.next_ : Int))), (aLD K (List.map Cd.d (self.queue : List (List Int)))), (aDK K (dD (self.kept : (List (Int × (List Int)))))), (aD K (Cd.d (self.sent : Int))), (aLD K (List.map Cd.d (self.again : List (T3 Int Int Int)))), (aD K (Cd.d (self.silent : Int)))])), some (aD K (Cd.d (number : Int)))] rfl (xg_bind fun g_137 hg_137 =>
  (xg_bind fun r_138 hr_138 =>
  (xg_ret (A := (aD K (Cd.d ((self.low + r_138) : Int)))) (xe_add (xe_fldD 2 (xe_nmV 0 rfl) (Own.slot 0 rfl) T_Sender.cl T_Sender.n_low nd_Sender rfl rfl) (xe_isI (xe_mod (modM_eq hr_138).1 (xe_sub (xe_nm 1 rfl) (xe_fldD 2 (xe_nmV 0 rfl) (Own.slot 0 rfl) T_Sender.cl T_Sender.n_low nd_Sender rfl rfl)) (xe_shl (guardO_eq hg_137) xe_int (xe_fldD 0 (xe_nmV 0 rfl) (Own.slot 0 rfl) T_Sender.cl T_Sender.n_bits nd_Sender rfl rfl))) (modM_eq hr_138).2)) (wk_k (wk_k (wk_n wk_0)))))))
def m_Sender_ask (self : M_Sender) (number : Int) (v_start : Int) (stop : Int) : Option M_Sender :=
  (Option.bind ((if (!List.isEmpty self.again) = true then (andO (Option.bind (atI self.again (-1)) fun x_146 => (some (decide ((x_146.a : Int) = number)))) (Option.bind (atI self.again (-1)) fun x_148 => (some (decide (v_start ≤ x_148.c))))) else some false)) fun c_149 =>
  (Option.bind (if c_149 = true then
  (Option.bind (atI self.again (-1)) fun x_161 =>
  (Option.bind (ixN (List.length self.again) (-1)) fun j_162 =>
  (lett ((T3.mk number x_161.b (max stop x_161.c)) : (T3 Int Int Int)) fun e_163 =>
  (some { self with again := (List.set self.again j_162 e_163) })))) else
  (Option.bind (if (decide (v_start < stop)) = true then
  (Option.bind (guardO (List.length self.again < 1000000)) fun g_168 =>
  (some { self with again := (self.again ++ [(T3.mk number v_start stop)]) })) else
  (some self)) fun s_166 =>
  (some s_166))) fun s_159 =>
  (some s_159)))
abbrev sp_Sender_ask (K : PySem.W.Frag) (cl_Sender : Addr) (cl_BearerError : Addr) (cl_NotValid : Addr) : Sp := SpM (fun x : (M_Sender × Int × Int × Int) => [(o_Sender K cl_Sender cl_BearerError cl_NotValid x.1), (aD K (Cd.d (x.2.1 : Int))), (aD K (Cd.d (x.2.2.1 : Int))), (aD K (Cd.d (x.2.2.2 : Int)))]) (fun x => m_Sender_ask x.1 x.2.1 x.2.2.1 x.2.2.2) (fun x (r : M_Sender) => [some (o_Sender K cl_Sender cl_BearerError cl_NotValid r), none, none, none]) (fun _ r => aD K .none)
abbrev s_Sender_ask : Stmt := inClass (topS 22) 12
theorem sc_Sender_ask : FnScope ["self", "number", "start", "stop"] ["self", "number", "start", "stop"] (defScope s_Sender_ask) := ⟨rfl, rfl, rfl, by decide +kernel, rfl, by decide +kernel, by decide +kernel⟩
set_option maxHeartbeats 4000000 in
theorem ok_Sender_ask {P : Program} {w : World} {K : PySem.W.Frag} {mg : Str → Option Value} {base : Heap} {f : Addr} {cl_Sender : Addr} {cl_BearerError : Addr} {cl_NotValid : Addr} {fd : FuncData} (F : Fun K "ask" "Sender.ask" s_Sender_ask f fd) (T_Sender : CF_Sender K cl_Sender) (X_BearerError : ExK K mg "BearerError" cl_BearerError) (E_BearerError : ExcC K cl_BearerError) (X_NotValid : ExK K mg "NotValid" cl_NotValid) (E_NotValid : ExcC K cl_NotValid) (xm_NotValid_BearerError : PySem.W.exmOne K (.ref cl_NotValid) (.ref cl_BearerError) = some true) (xk_NotValid_NotValid : PySem.W.kitOne K (.ref cl_NotValid) (.ref cl_NotValid) = some true) (m_max : mg "max" = none) : FnOk P w K mg base CX0 1 f fd ["self", "number", "start", "stop"] (sp_Sender_ask K cl_Sender cl_BearerError cl_NotValid) :=
  fn_okN (k := 0) [true, false, false, false] F sc_Sender_ask rfl (fun _ => rfl) (fun _ _ => rfl) fun x vs cdv A outer s H E hv hr => by
    match x, vs, hv with
    | (self, number, v_start, stop), [pa0, pa1, pa2, pa3], _ =>
      have nd := sc_Sender_ask.nd
      show XG _ _ [some (pin pa0 (o_Sender K cl_Sender cl_BearerError cl_NotValid self)), some (aD K (Cd.d (number : Int))), some (aD K (Cd.d (v_start : Int))), some (aD K (Cd.d (stop : Int)))] (m_Sender_ask self number v_start stop) (oS fun r : M_Sender => [some (pin pa0 (o_Sender K cl_Sender cl_BearerError cl_NotValid r)), none, none, none])
      unfold m_Sender_ask
      exact (xg_st [some (pin pa0 (o_Sender K cl_Sender cl_BearerError cl_NotValid self)), some (aD K (Cd.d (number : Int))), some (aD K (Cd.d (v_start : Int))), some (aD K (Cd.d (stop : Int)))] rfl (xg_bind fun c_149 hc_149 =>
  (xg_if (N := (fun s_159 : M_Sender => [some (pin pa0 (o_Sender K cl_Sender cl_BearerError cl_NotValid s_159)), some (aD K (Cd.d (number : Int))), some (aD K (Cd.d (v_start : Int))), some (aD K (Cd.d (stop : Int)))])) (xt_w (xw_andM (xt_pinC ctnO (Own.slot 0 rfl) 7 rfl fun pv_144 => (xt_weakE (ρ1 := [some (pin pa0 (aObj cl_Sender ns_Sender [(aD K (Cd.d (self.bits : Int))), (aD K (Cd.d (self.window : Int))), (aD K (Cd.d (self.low : Int))), (aD K (Cd.d (self.next_ : Int))), (aLD K (List.map Cd.d (self.queue : List (List Int)))), (aDK K (dD (self.kept : (List (Int × (List Int)))))), (aD K (Cd.d (self.sent : Int))), (pin pv_144 (aLD K (List.map Cd.d (self.again : List (T3 Int Int Int))))), (aD K (Cd.d (self.silent : Int)))])), some (aD K (Cd.d (number : Int))), some (aD K (Cd.d (v_start : Int))), some (aD K (Cd.d (stop : Int)))]) (B' := (pin pa0 (o_Sender K cl_Sender cl_BearerError cl_NotValid self))) (xt_stE [some (pin pa0 (aObj cl_Sender ns_Sender [(aD K (Cd.d (self.bits : Int))), (aD K (Cd.d (self.window : Int))), (aD K (Cd.d (self.low : Int))), (aD K (Cd.d (self.next_ : Int))), (aLD K (List.map Cd.d (self.queue : List (List Int)))), (aDK K (dD (self.kept : (List (Int × (List Int)))))), (aD K (Cd.d (self.sent : Int))), (pin pv_144 (aLD K (List.map Cd.d (self.again : List (T3 Int Int Int))))), (aD K (Cd.d (self.silent : Int)))])), some (aD K (Cd.d (number : Int))), some (aD K (Cd.d (v_start : Int))), some (aD K (Cd.d (stop : Int)))] (xt_st0 [some (pin pa0 (aObj cl_Sender ns_Sender [(aD K (Cd.d (self.bits : Int))), (aD K (Cd.d (self.window : Int))), (aD K (Cd.d (self.low : Int))), (aD K (Cd.d (self.next_ : Int))), (aLD K (List.map Cd.d (self.queue : List (List Int)))), (aDK K (dD (self.kept : (List (Int × (List Int)))))), (aD K (Cd.d (self.sent : Int))), (pin pv_144 (aLD K (List.map Cd.d (self.again : List (T3 Int Int Int))))), (aD K (Cd.d (self.silent : Int)))])), some (aD K (Cd.d (number : Int))), some (aD K (Cd.d (v_start : Int))), some (aD K (Cd.d (stop : Int)))] rfl (xc_truth (xs := self.again) (xe_fldV 7 (xe_nmV 0 rfl) (Own.slot 0 rfl) T_Sender.cl T_Sender.n_again nd_Sender rfl rfl) (Rls.sq (Rlm.ls (rmW (Own.kid ctnO (Own.slot 0 rfl) 7 rfl)))) (Rlm.ls (rmW (Own.kid ctnO (Own.slot 0 rfl) 7 rfl)))))) 0 rfl (imp_pin (imp_obj (.cons imp_rfl (.cons imp_rfl (.cons imp_rfl (.cons imp_rfl (.cons imp_rfl (.cons imp_rfl (.cons imp_rfl (.cons (imp_pinned imp_rfl) (.cons imp_rfl .nil))))))))))))) (xwm_and (xtm_bind fun x_146 hx_146 => (xtm_some (xt_pinC ctnO (Own.slot 0 rfl) 7 rfl fun pv_145 => (xt_weakE (ρ1 := [some (pin pa0 (aObj cl_Sender ns_Sender [(aD K (Cd.d (self.bits : Int))), (aD K (Cd.d (self.window : Int))), (aD K (Cd.d (self.low : Int))), (aD K (Cd.d (self.next_ : Int))), (aLD K (List.map Cd.d (self.queue : List (List Int)))), (aDK K (dD (self.kept : (List (Int × (List Int)))))), (aD K (Cd.d (self.sent : Int))), (pin pv_145 (aLD K (List.map Cd.d (self.again : List (T3 Int Int Int))))), (aD K (Cd.d (self.silent : Int)))])), some (aD K (Cd.d (number : Int))), some (aD K (Cd.d (v_start : Int))), some (aD K (Cd.d (stop : Int)))]) (B' := (pin pa0 (o_Sender K cl_Sender cl_BearerError cl_NotValid self))) (xt_stE [some (pin pa0 (aObj cl_Sender ns_Sender [(aD K (Cd.d (self.bits : Int))), (aD K (Cd.d (self.window : Int))), (aD K (Cd.d (self.low : Int))), (aD K (Cd.d (self.next_ : Int))), (aLD K (List.map Cd.d (self.queue : List (List Int)))), (aDK K (dD (self.kept : (List (Int × (List Int)))))), (aD K (Cd.d (self.sent : Int))), (pin pv_145 (aLD K (List.map Cd.d (self.again : List (T3 Int Int Int))))), (aD K (Cd.d (self.silent : Int)))])), some (aD K (Cd.d (number : Int))), some (aD K (Cd.d (v_start : Int))), some (aD K (Cd.d (stop : Int)))] (xt_st0 [some (pin pa0 (aObj cl_Sender ns_Sender [(aD K (Cd.d (self.bits : Int))), (aD K (Cd.d (self.window : Int))), (aD K (Cd.d (self.low : Int))), (aD K (Cd.d (self.next_ : Int))), (aLD K (List.map Cd.d (self.queue : List (List Int)))), (aDK K (dD (self.kept : (List (Int × (List Int)))))), (aD K (Cd.d (self.sent : Int))), (pin pv_145 (aLD K (List.map Cd.d (self.again : List (T3 Int Int Int))))), (aD K (Cd.d (self.silent : Int)))])), some (aD K (Cd.d (number : Int))), some (aD K (Cd.d (v_start : Int))), some (aD K (Cd.d (stop : Int)))] rfl (xt_k (xkc_eq (x := (x_146.a : Int)) (y := (number : Int)) hr.units (xe_ixT (xc_ix (xs := self.again) (xe_fldV 7 (xe_nmV 0 rfl) (Own.slot 0 rfl) T_Sender.cl T_Sender.n_again nd_Sender rfl rfl) (xe_neg xe_int) (Rlm.ls (rmW (Own.kid ctnO (Own.slot 0 rfl) 7 rfl))) hx_146) xe_int rtD rfl) (xe_nm 1 rfl) rdD rdD)))) 0 rfl (imp_pin (imp_obj (.cons imp_rfl (.cons imp_rfl (.cons imp_rfl (.cons imp_rfl (.cons imp_rfl (.cons imp_rfl (.cons imp_rfl (.cons (imp_pinned imp_rfl) (.cons imp_rfl .nil))))))))))))))) (xwm_and1 (xtm_bind fun x_148 hx_148 => (xtm_some (xt_pinC ctnO (Own.slot 0 rfl) 7 rfl fun pv_147 => (xt_weakE (ρ1 := [some (pin pa0 (aObj cl_Sender ns_Sender [(aD K (Cd.d (self.bits : Int))), (aD K (Cd.d (self.window : Int))), (aD K (Cd.d (self.low : Int))), (aD K (Cd.d (self.next_ : Int))), (aLD K (List.map Cd.d (self.queue : List (List Int)))), (aDK K (dD (self.kept : (List (Int × (List Int)))))), (aD K (Cd.d (self.sent : Int))), (pin pv_147 (aLD K (List.map Cd.d (self.again : List (T3 Int Int Int))))), (aD K (Cd.d (self.silent : Int)))])), some (aD K (Cd.d (number : Int))), some (aD K (Cd.d (v_start : Int))), some (aD K (Cd.d (stop : Int)))]) (B' := (pin pa0 (o_Sender K cl_Sender cl_BearerError cl_NotValid self))) (xt_stE [some (pin pa0 (aObj cl_Sender ns_Sender [(aD K (Cd.d (self.bits : Int))), (aD K (Cd.d (self.window : Int))), (aD K (Cd.d (self.low : Int))), (aD K (Cd.d (self.next_ : Int))), (aLD K (List.map Cd.d (self.queue : List (List Int)))), (aDK K (dD (self.kept : (List (Int × (List Int)))))), (aD K (Cd.d (self.sent : Int))), (pin pv_147 (aLD K (List.map Cd.d (self.again : List (T3 Int Int Int))))), (aD K (Cd.d (self.silent : Int)))])), some (aD K (Cd.d (number : Int))), some (aD K (Cd.d (v_start : Int))), some (aD K (Cd.d (stop : Int)))] (xt_st0 [some (pin pa0 (aObj cl_Sender ns_Sender [(aD K (Cd.d (self.bits : Int))), (aD K (Cd.d (self.window : Int))), (aD K (Cd.d (self.low : Int))), (aD K (Cd.d (self.next_ : Int))), (aLD K (List.map Cd.d (self.queue : List (List Int)))), (aDK K (dD (self.kept : (List (Int × (List Int)))))), (aD K (Cd.d (self.sent : Int))), (pin pv_147 (aLD K (List.map Cd.d (self.again : List (T3 Int Int Int))))), (aD K (Cd.d (self.silent : Int)))])), some (aD K (Cd.d (number : Int))), some (aD K (Cd.d (v_start : Int))), some (aD K (Cd.d (stop : Int)))] rfl (xt_k (xk_le (xe_nm 2 rfl) (xe_ixT (xc_ix (xs := self.again) (xe_fldV 7 (xe_nmV 0 rfl) (Own.slot 0 rfl) T_Sender.cl T_Sender.n_again nd_Sender rfl rfl) (xe_neg xe_int) (Rlm.ls (rmW (Own.kid ctnO (Own.slot 0 rfl) 7 rfl))) hx_148) xe_int rtD rfl))))) 0 rfl (imp_pin (imp_obj (.cons imp_rfl (.cons imp_rfl (.cons imp_rfl (.cons imp_rfl (.cons imp_rfl (.cons imp_rfl (.cons imp_rfl (.cons (imp_pinned imp_rfl) (.cons imp_rfl .nil))))))))))))))))) hc_149)) (fun _ => (xg_pinC ctnO (Own.slot 0 rfl) 7 rfl fun pv_160 => (xg_st [some (pin pa0 (aObj cl_Sender ns_Sender [(aD K (Cd.d (self.bits : Int))), (aD K (Cd.d (self.window : Int))), (aD K (Cd.d (self.low : Int))), (aD K (Cd.d (self.next_ : Int))), (aLD K (List.map Cd.d (self.queue : List (List Int)))), (aDK K (dD (self.kept : (List (Int × (List Int)))))), (aD K (Cd.d (self.sent : Int))), (pin pv_160 (aLD K (List.map Cd.d (self.again : List (T3 Int Int Int))))), (aD K (Cd.d (self.silent : Int)))])), some (aD K (Cd.d (number : Int))), some (aD K (Cd.d (v_start : Int))), some (aD K (Cd.d (stop : Int)))] rfl (xg_bind fun x_161 hx_161 =>
  (xg_bind fun j_162 hj_162 =>
  (xg_lett fun e_163 he_163 =>
  (xg_tgt (A := aD K (Cd.d (e_163 : (T3 Int Int Int)))) (xe_nv (v := ((T3.mk number x_161.b (max stop x_161.c)) : (T3 Int Int Int))) (xe_tup (ds := [Cd.d (number : Int), Cd.d (x_161.b : Int), Cd.d ((max stop x_161.c) : Int)]) (xa_cons (xe_nm 1 rfl) (xa_cons (xe_ixT (xc_ix (xs := self.again) (xe_fldV 7 (xe_nmV 0 rfl) (Own.slot 0 rfl) T_Sender.cl T_Sender.n_again nd_Sender rfl rfl) (xe_neg xe_int) (Rlm.ls (rmW (Own.kid ctnO (Own.slot 0 rfl) 7 rfl))) hx_161) xe_int rtD rfl) (xa_cons (xe_max2 rfl (xe_nm 3 rfl) (xe_ixT (xc_ix (xs := self.again) (xe_fldV 7 (xe_nmV 0 rfl) (Own.slot 0 rfl) T_Sender.cl T_Sender.n_again nd_Sender rfl rfl) (xe_neg xe_int) (Rlm.ls (rmW (Own.kid ctnO (Own.slot 0 rfl) 7 rfl))) hx_161) xe_int rtD rfl) m_max) xa_nil))) (Nat.le_of_ble_eq_true rfl)) he_163) (xp_setDW (cv := Cd.d) (xs := self.again) (xe_fldV 7 (xe_nmV 0 rfl) (Own.slot 0 rfl) T_Sender.cl T_Sender.n_again nd_Sender rfl rfl) (xe_neg xe_int) (Own.kid ctnO (Own.slot 0 rfl) 7 rfl) hj_162) (by exact xg_weak (ρ := [some (pin pa0 (aObj cl_Sender ns_Sender [(aD K (Cd.d (self.bits : Int))), (aD K (Cd.d (self.window : Int))), (aD K (Cd.d (self.low : Int))), (aD K (Cd.d (self.next_ : Int))), (aLD K (List.map Cd.d (self.queue : List (List Int)))), (aDK K (dD (self.kept : (List (Int × (List Int)))))), (aD K (Cd.d (self.sent : Int))), (pin pv_160 (aLD K (List.map Cd.d ((List.set self.again j_162 e_163) : List (T3 Int Int Int))))), (aD K (Cd.d (self.silent : Int)))])), some (aD K (Cd.d (number : Int))), some (aD K (Cd.d (v_start : Int))), some (aD K (Cd.d (stop : Int)))]) (B := (pin pa0 (o_Sender K cl_Sender cl_BearerError cl_NotValid { self with again := (List.set self.again j_162 e_163) }))) 0 rfl (imp_pin (imp_obj (.cons imp_rfl (.cons imp_rfl (.cons imp_rfl (.cons imp_rfl (.cons imp_rfl (.cons imp_rfl (.cons imp_rfl (.cons (imp_pinned imp_rfl) (.cons imp_rfl .nil))))))))))) (xg_nilS (wk_k (wk_k (wk_k (wk_k wk_0))))))))))))) (fun _ => (xg_st [some (pin pa0 (o_Sender K cl_Sender cl_BearerError cl_NotValid self)), some (aD K (Cd.d (number : Int))), some (aD K (Cd.d (v_start : Int))), some (aD K (Cd.d (stop : Int)))] rfl (xg_if (N := (fun s_166 : M_Sender => [some (pin pa0 (o_Sender K cl_Sender cl_BearerError cl_NotValid s_166)), some (aD K (Cd.d (number : Int))), some (aD K (Cd.d (v_start : Int))), some (aD K (Cd.d (stop : Int)))])) (xt_k (xk_lt (xe_nm 2 rfl) (xe_nm 3 rfl))) (fun _ => (xg_pinC ctnO (Own.slot 0 rfl) 7 rfl fun pv_167 => (xg_st [some (pin pa0 (aObj cl_Sender ns_Sender [(aD K (Cd.d (self.bits : Int))), (aD K (Cd.d (self.window : Int))), (aD K (Cd.d (self.low : Int))), (aD K (Cd.d (self.next_ : Int))), (aLD K (List.map Cd.d (self.queue : List (List Int)))), (aDK K (dD (self.kept : (List (Int × (List Int)))))), (aD K (Cd.d (self.sent : Int))), (pin pv_167 (aLD K (List.map Cd.d (self.again : List (T3 Int Int Int))))), (aD K (Cd.d (self.silent : Int)))])), some (aD K (Cd.d (number : Int))), some (aD K (Cd.d (v_start : Int))), some (aD K (Cd.d (stop : Int)))] rfl (xg_bind fun g_168 hg_168 =>
  (xg_expr (xe_appendDW (cv := Cd.d) (xs := self.again) (x := (T3.mk number v_start stop)) (xe_fldV 7 (xe_nmV 0 rfl) (Own.slot 0 rfl) T_Sender.cl T_Sender.n_again nd_Sender rfl rfl) (Own.kid ctnO (Own.slot 0 rfl) 7 rfl) (xe_tup (ds := [Cd.d (number : Int), Cd.d (v_start : Int), Cd.d (stop : Int)]) (xa_cons (xe_nm 1 rfl) (xa_cons (xe_nm 2 rfl) (xa_cons (xe_nm 3 rfl) xa_nil))) (Nat.le_of_ble_eq_true rfl)) (Own.kid ctnO (Own.slot 0 rfl) 7 rfl) (sz_lt (guardO_eq hg_168))) (by exact xg_weak (ρ := [some (pin pa0 (aObj cl_Sender ns_Sender [(aD K (Cd.d (self.bits : Int))), (aD K (Cd.d (self.window : Int))), (aD K (Cd.d (self.low : Int))), (aD K (Cd.d (self.next_ : Int))), (aLD K (List.map Cd.d (self.queue : List (List Int)))), (aDK K (dD (self.kept : (List (Int × (List Int)))))), (aD K (Cd.d (self.sent : Int))), (pin pv_167 (aLD K (List.map Cd.d ((self.again ++ [(T3.mk number v_start stop)]) : List (T3 Int Int Int))))), (aD K (Cd.d (self.silent : Int)))])), some (aD K (Cd.d (number : Int))), some (aD K (Cd.d (v_start : Int))), some (aD K (Cd.d (stop : Int)))]) (B := (pin pa0 (o_Sender K cl_Sender cl_BearerError cl_NotValid { self with again := (self.again ++ [(T3.mk number v_start stop)]) }))) 0 rfl (imp_pin (imp_obj (.cons imp_rfl (.cons imp_rfl (.cons imp_rfl (.cons imp_rfl (.cons imp_rfl (.cons imp_rfl (.cons imp_rfl (.cons (imp_pinned imp_rfl) (.cons imp_rfl .nil))))))))))) (xg_nilS (wk_k (wk_k (wk_k (wk_k wk_0))))))))))) (fun _ => (xg_nilS (wk_k (wk_k (wk_k (wk_k wk_0)))))) (fun s_166 => (xg_nilS (wk_k (wk_k (wk_k (wk_k wk_0))))))))) (fun s_159 => (xg_nilS (wk_k (wk_n (wk_n (wk_n wk_0)))))))))
def m_Sender_take_status (self : M_Sender) (upto : Int) (missing : (List (T3 Int Int Int))) : Option ((Option (List Int)) × M_Sender) :=
  (Option.bind (m_Sender_true_number self upto) fun v_169 =>
  (if (decide (self.next_ < v_169)) = true then
  (some ((none : (Option (List Int))), self)) else
  (Option.bind (mapO (fun q_170 : (T3 Int Int Int) => (Option.bind (m_Sender_true_number { self with silent := 0 } q_170.a) fun v_172 => (some (T3.mk v_172 q_170.b q_170.c)))) missing) fun ys_173 =>
  (Option.bind (mapO (fun row_174 : (T3 Int Int Int) => some (row_174.a, true)) ys_173) fun ys_175 =>
  (Option.bind (guardO (List.length self.kept ≤ 100000)) fun g_178 =>
  (Option.bind (fltO (fun number_179 : Int => (some ((decide (number_179 < v_169)) && (!dHas (dOf ys_175) number_179)))) (fun number_179 : Int => (some number_179)) (srtI (dKeys self.kept))) fun ys_180 =>
  (Option.bind (List.foldlM (fun (s_182 : M_Sender) (number_183 : Int) =>
  (Option.bind (dGet s_182.kept number_183) fun d_187 =>
  (some { s_182 with kept := (dDel s_182.kept number_183) }))) { self with silent := 0 } ys_180) fun s_188 =>
  (Option.bind (guardO (Ok3 ys_173)) fun g_189 =>
  (Option.bind (List.foldlM (fun (s_190 : M_Sender) (number_191 : (T3 Int Int Int)) =>
  (Option.bind (if ((dHas s_190.kept number_191.a) && (decide (number_191.a < v_169))) = true then
  (Option.bind (m_Sender_sent_of s_190 number_191.a) fun v_204 =>
  (Option.bind (m_Sender_ask s_190 number_191.a number_191.b (min (number_191.c + 1) v_204)) fun v_205 =>
  (some v_205))) else
  (some s_190)) fun s_203 =>
  (some s_203))) { s_188 with again := ([] : (List (T3 Int Int Int))) } (srt3 ys_173)) fun s_206 =>
  (lett ((Option.getD (minI (dKeys s_206.kept)) s_206.next_) : Int) fun low_208 =>
  (some ((some ys_180), { s_206 with low := low_208 }))))))))))))
abbrev sp_Sender_take_status (K : PySem.W.Frag) (cl_Sender : Addr) (cl_BearerError : Addr) (cl_NotValid : Addr) : Sp := SpM (fun x : (M_Sender × Int × (List (T3 Int Int Int))) => [(o_Sender K cl_Sender cl_BearerError cl_NotValid x.1), (aD K (Cd.d (x.2.1 : Int))), (aD K (Cd.d (x.2.2 : (List (T3 Int Int Int)))))]) (fun x => m_Sender_take_status x.1 x.2.1 x.2.2) (fun x (r : ((Option (List Int)) × M_Sender)) => [some (o_Sender K cl_Sender cl_BearerError cl_NotValid r.2), none, none]) (fun _ r => (aD K (Cd.d (r.1 : (Option (List Int))))))
abbrev s_Sender_take_status : Stmt := inClass (topS 22) 11
theorem sc_Sender_take_status : FnScope ["self", "upto", "missing", "end", "told", "absent", "confirmed", "number", "first", "last", "row"] ["self", "upto", "missing"] (defScope s_Sender_take_status) := ⟨rfl, rfl, rfl, by decide +kernel, rfl, by decide +kernel, by decide +kernel⟩
set_option maxHeartbeats 4000000 in
theorem ok_Sender_take_status {P : Program} {w : World} {K : PySem.W.Frag} {mg : Str → Option Value} {base : Heap} {f : Addr} {cl_Sender : Addr} {cl_BearerError : Addr} {cl_NotValid : Addr} {fd : FuncData} (F : Fun K "take_status" "Sender.take_status" s_Sender_take_status f fd) (T_Sender : CF_Sender K cl_Sender) (X_BearerError : ExK K mg "BearerError" cl_BearerError) (E_BearerError : ExcC K cl_BearerError) (X_NotValid : ExK K mg "NotValid" cl_NotValid) (E_NotValid : ExcC K cl_NotValid) (xm_NotValid_BearerError : PySem.W.exmOne K (.ref cl_NotValid) (.ref cl_BearerError) = some true) (xk_NotValid_NotValid : PySem.W.kitOne K (.ref cl_NotValid) (.ref cl_NotValid) = some true) (m_min : mg "min" = none) (m_sorted : mg "sorted" = none) (c_Sender_ask : CalM P w K mg base 1 cl_Sender "ask" (sp_Sender_ask K cl_Sender cl_BearerError cl_NotValid)) (c_Sender_sent_of : CalM P w K mg base 1 cl_Sender "sent_of" (sp_Sender_sent_of K cl_Sender cl_BearerError cl_NotValid)) (c_Sender_true_number : CalM P w K mg base 1 cl_Sender "true_number" (sp_Sender_true_number K cl_Sender cl_BearerError cl_NotValid)) : FnOk P w K mg base CX0 2 f fd ["self", "upto", "missing"] (sp_Sender_take_status K cl_Sender cl_BearerError cl_NotValid) :=
  fn_ok (k := 1) [true, false, false] F sc_Sender_take_status rfl (fun _ => rfl) (fun _ _ => rfl) fun x vs cdv A outer s H E hv hr => by
    match x, vs, hv with
    | (self, upto, missing), [pa0, pa1, pa2], _ =>
      have nd := sc_Sender_take_status.nd
      show XG _ _ [some (pin pa0 (o_Sender K cl_Sender cl_BearerError cl_NotValid self)), some (aD K (Cd.d (upto : Int))), some (aD K (Cd.d (missing : (List (T3 Int Int Int))))), none, none, none, none, none, none, none, none] (m_Sender_take_status self upto missing) (oR fun r : ((Option (List Int)) × M_Sender) => [some ((aD K (Cd.d (r.1 : (Option (List Int)))))), some (pin pa0 (o_Sender K cl_Sender cl_BearerError cl_NotValid r.2)), none, none, none, none, none, none, none, none, none, none])
      unfold m_Sender_take_status
      exact (xg_st [some (pin pa0 (o_Sender K cl_Sender cl_BearerError cl_NotValid self)), some (aD K (Cd.d (upto : Int))), some (aD K (Cd.d (missing : (List (T3 Int Int Int))))), none, none, none, none, none, none, none, none] rfl (xg_bind fun v_169 hv_169 =>
  (xg_asg 3 (A := aD K (Cd.d (v_169 : Int))) (xe_methX (xx := (self, upto)) c_Sender_true_number T_Sender.cl nm_Sender_true_number (hr.mono (by decide)) hv_169 (xe_nmV 0 rfl) (Own.slot 0 rfl) (xx_of (xa_cons (xe_nm 1 rfl) xa_nil)) (Own.slot 0 rfl) rfl rfl rfl rfl (Fill.cons 0 (List.Mem.head _) rfl (Own.slot 0 rfl) Fill.nil)) (xg_st [some (pin pa0 (aObj cl_Sender ns_Sender [(aD K (Cd.d (self.bits : Int))), (aD K (Cd.d (self.window : Int))), (aD K (Cd.d (self.low : Int))), (aD K (Cd.d (self.next_ : Int))), (aLD K (List.map Cd.d (self.queue : List (List Int)))), (aDK K (dD (self.kept : (List (Int × (List Int)))))), (aD K (Cd.d (self.sent : Int))), (aLD K (List.map Cd.d (self.again : List (T3 Int Int Int)))), (aD K (Cd.d (self.silent : Int)))])), some (aD K (Cd.d (upto : Int))), some (aD K (Cd.d (missing : (List (T3 Int Int Int))))), some (aD K (Cd.d (v_169 : Int))), none, none, none, none, none, none, none] rfl (xg_ifR (u := []) (xt_k (xk_gt (xe_nm 3 rfl) (xe_fldD 3 (xe_nmV 0 rfl) (Own.slot 0 rfl) T_Sender.cl T_Sender.n_next nd_Sender rfl rfl))) (fun _ => (xg_st [some (pin pa0 (o_Sender K cl_Sender cl_BearerError cl_NotValid self)), some (aD K (Cd.d (upto : Int))), some (aD K (Cd.d (missing : (List (T3 Int Int Int))))), some (aD K (Cd.d (v_169 : Int))), none, none, none, none, none, none, none] rfl (xg_ret (A := (aD K (Cd.d ((none : (Option (List Int))) : (Option (List Int)))))) (xe_is (B := aD K (Cd.d (none : (Option (List Int))))) xe_non rfl) (wk_k (wk_k (wk_n (wk_n (wk_n (wk_n (wk_n (wk_n (wk_n (wk_n (wk_n (wk_n wk_0))))))))))))))) (fun _ => (xg_st [some (pin pa0 (o_Sender K cl_Sender cl_BearerError cl_NotValid self)), some (aD K (Cd.d (upto : Int))), some (aD K (Cd.d (missing : (List (T3 Int Int Int))))), some (aD K (Cd.d (v_169 : Int))), none, none, none, none, none, none, none] rfl (xg_fld 8 (B := (aD K (Cd.d (0 : Int)))) xe_int (xe_nmV 0 rfl) (Own.slot 0 rfl) T_Sender.cl T_Sender.n_silent nd_Sender rfl (xg_st [some (pin pa0 (o_Sender K cl_Sender cl_BearerError cl_NotValid { self with silent := 0 })), some (aD K (Cd.d (upto : Int))), some (aD K (Cd.d (missing : (List (T3 Int Int Int))))), some (aD K (Cd.d (v_169 : Int))), none, none, none, none, none, none, none] rfl (xg_bind fun ys_173 hys_173 =>
  (xg_asgLcT (j := 4) (own := [("number", 7), ("first", 8), ("last", 9)]) (xct_frz (xct_imp (xct_mapO (is := [7, 8, 9]) (N := [some (pin pa0 (o_Sender K cl_Sender cl_BearerError cl_NotValid { self with silent := 0 })), some (aD K (Cd.d (upto : Int))), some (aD K (Cd.d (missing : (List (T3 Int Int Int))))), some (aD K (Cd.d (v_169 : Int))), none, none, none, none, none, none, none]) (dv := (fun q_170 : (T3 Int Int Int) => [Cd.d q_170.a, Cd.d q_170.b, Cd.d q_170.c])) hys_173 (xi_list (xs := missing) (cv := Cd.d) (xe_nm 2 rfl)) rfl trivial (show ∀ i ∈ [7, 8, 9], i < 11 from by decide) rfl (fun _ => rfl) (fun _ => rfl) (el := fun y => (aD K (Cd.d (y : (T3 Int Int Int))))) (fun _ _ _ _ _ q_170 => (xem_bind fun v_172 hv_172 => (xem_some (xe_tup (ds := [Cd.d (v_172 : Int), Cd.d (q_170.b : Int), Cd.d (q_170.c : Int)]) (xa_cons (xe_methX (xx := (({ self with silent := 0 } : M_Sender), q_170.a)) c_Sender_true_number T_Sender.cl nm_Sender_true_number (hr.mono (by decide)) hv_172 (xe_nmV 0 rfl) (Own.slot 0 rfl) (xx_of (xa_cons (xe_nm 7 rfl) xa_nil)) (Own.slot 0 rfl) rfl rfl rfl rfl (Fill.cons 0 (List.Mem.head _) rfl (Own.slot 0 rfl) Fill.nil)) (xa_cons (xe_nm 8 rfl) (xa_cons (xe_nm 9 rfl) xa_nil))) (Nat.le_of_ble_eq_true rfl)))))) (aLD_map Cd.d _))) rfl rfl (sw_true rfl rfl rfl (by decide +kernel)) (xg_st [some (pin pa0 (o_Sender K cl_Sender cl_BearerError cl_NotValid { self with silent := 0 })), some (aD K (Cd.d (upto : Int))), some (aD K (Cd.d (missing : (List (T3 Int Int Int))))), some (aD K (Cd.d (v_169 : Int))), some (aD K (Cd.d (ys_173 : (List (T3 Int Int Int))))), none, none, none, none, none, none] rfl (xg_bind fun ys_175 hys_175 =>
  (xg_asgP 5 (xe_dc (xdc_mapO (i := 10) (ys := ys_175) hys_175 (xi_list (xs := ys_173) (cv := Cd.d) (xe_nm 4 rfl)) trivial (Nat.le_of_ble_eq_true rfl) (fun _ _ _ _ _ row_174 y hf => by cases hf; exact (xe_ixT (xe_nm 10 rfl) xe_int rtD rfl)) (fun _ _ _ _ _ row_174 y hf => by cases hf; exact xe_bl)) rfl nd (blkOk_by (N := ["self", "upto", "missing", "end", "told", "absent", "confirmed", "number", "first", "last", "row"]) (sc := defScope s_Sender_take_status) (by decide +kernel)) (fun _ _ _ _ _ => pg_name nd rfl (.inl rfl))) fun pv_176 => (xg_pinC ctnO (Own.slot 0 rfl) 5 rfl fun pv_177 => (xg_st [some (pin pa0 (aObj cl_Sender ns_Sender [(aD K (Cd.d (self.bits : Int))), (aD K (Cd.d (self.window : Int))), (aD K (Cd.d (self.low : Int))), (aD K (Cd.d (self.next_ : Int))), (aLD K (List.map Cd.d (self.queue : List (List Int)))), (pin pv_177 (aDK K (dD (self.kept : (List (Int × (List Int))))))), (aD K (Cd.d (self.sent : Int))), (aLD K (List.map Cd.d (self.again : List (T3 Int Int Int)))), (aD K (Cd.d (0 : Int)))])), some (aD K (Cd.d (upto : Int))), some (aD K (Cd.d (missing : (List (T3 Int Int Int))))), some (aD K (Cd.d (v_169 : Int))), some (aD K (Cd.d (ys_173 : (List (T3 Int Int Int))))), some (pin pv_176 (aDK K (dD ((dOf ys_175) : (List (Int × Bool)))))), none, none, none, none, none] rfl (xg_bind fun g_178 hg_178 =>
  (xg_bind fun ys_180 hys_180 =>
  (xg_asgLcP (j := 6) (xc_imp (xc_fltO 7 hys_180 (xi_list (xs := (srtI (dKeys self.kept))) (cv := Cd.d) (xe_frz (xe_dsortedN (kvs := self.kept) rfl (guardO_eq hg_178) (xe_fldV 5 (xe_nmV 0 rfl) (Own.slot 0 rfl) T_Sender.cl T_Sender.n_kept nd_Sender rfl rfl) (Own.kid ctnO (Own.slot 0 rfl) 5 rfl) m_sorted))) trivial (Nat.le_of_ble_eq_true rfl) (el := fun y => (aD K (Cd.d (y : Int)))) (fun _ _ _ _ _ number_179 => (xtm_some (xt_w (xw_and (xt_k (xk_lt (xe_nm 7 rfl) (xe_nm 3 rfl))) fun _ => (xw_and1 (xt_k (xk_dnin (kvs := (dOf ys_175)) (k := number_179) hr.units (xe_nm 7 rfl) (xe_nmV 5 rfl) (Own.slot 5 rfl)))))))) (fun _ _ _ _ _ number_179 => (xem_some (xe_nm 7 rfl)))) (aLD_map Cd.d _)) rfl rfl (sw_true rfl rfl rfl (by decide +kernel)) (fun pv_181 => (by exact xg_weak (ρ := [some (pin pa0 (aObj cl_Sender ns_Sender [(aD K (Cd.d (self.bits : Int))), (aD K (Cd.d (self.window : Int))), (aD K (Cd.d (self.low : Int))), (aD K (Cd.d (self.next_ : Int))), (aLD K (List.map Cd.d (self.queue : List (List Int)))), (pin pv_177 (aDK K (dD (self.kept : (List (Int × (List Int))))))), (aD K (Cd.d (self.sent : Int))), (aLD K (List.map Cd.d (self.again : List (T3 Int Int Int)))), (aD K (Cd.d (0 : Int)))])), some (aD K (Cd.d (upto : Int))), some (aD K (Cd.d (missing : (List (T3 Int Int Int))))), some (aD K (Cd.d (v_169 : Int))), some (aD K (Cd.d (ys_173 : (List (T3 Int Int Int))))), some (pin pv_176 (aDK K (dD ((dOf ys_175) : (List (Int × Bool)))))), some (pin pv_181 (aLD K (List.map Cd.d (ys_180 : List Int)))), none, none, none, none]) (B := (pin pa0 (o_Sender K cl_Sender cl_BearerError cl_NotValid { self with silent := 0 }))) 0 rfl (imp_pin (imp_obj (.cons imp_rfl (.cons imp_rfl (.cons imp_rfl (.cons imp_rfl (.cons imp_rfl (.cons (imp_pinned imp_rfl) (.cons imp_rfl (.cons imp_rfl (.cons imp_rfl .nil))))))))))) (xg_st [some (pin pa0 (o_Sender K cl_Sender cl_BearerError cl_NotValid { self with silent := 0 })), some (aD K (Cd.d (upto : Int))), some (aD K (Cd.d (missing : (List (T3 Int Int Int))))), some (aD K (Cd.d (v_169 : Int))), some (aD K (Cd.d (ys_173 : (List (T3 Int Int Int))))), some (pin pv_176 (aDK K (dD ((dOf ys_175) : (List (Int × Bool)))))), some (pin pv_181 (aLD K (List.map Cd.d (ys_180 : List Int)))), none, none, none, none] rfl (xg_for (N := (fun s_182 : M_Sender => [some (pin pa0 (o_Sender K cl_Sender cl_BearerError cl_NotValid s_182)), some (aD K (Cd.d (upto : Int))), some (aD K (Cd.d (missing : (List (T3 Int Int Int))))), some (aD K (Cd.d (v_169 : Int))), some (aD K (Cd.d (ys_173 : (List (T3 Int Int Int))))), some (pin pv_176 (aDK K (dD ((dOf ys_175) : (List (Int × Bool)))))), some (pin pv_181 (aLD K (List.map Cd.d (ys_180 : List Int)))), none, none, none, none])) PassesOwn.never rfl (xi_ownW (xs := ys_180) (cv := Cd.d) (xe_nmV 6 rfl) (Own.slot 6 rfl)) (wk_k (wk_k (wk_k (wk_k (wk_k (wk_k (wk_k (wk_n (wk_n (wk_n (wk_n wk_0))))))))))) (fun _ => ⟨_, (Own.slot 6 rfl)⟩) (fun _ _ => (xp_nm 7)) (fun number_183 s_182 => (xg_pinC ctnO (Own.slot 0 rfl) 5 rfl fun pv_186 => (xg_st [some (pin pa0 (aObj cl_Sender ns_Sender [(aD K (Cd.d (s_182.bits : Int))), (aD K (Cd.d (s_182.window : Int))), (aD K (Cd.d (s_182.low : Int))), (aD K (Cd.d (s_182.next_ : Int))), (aLD K (List.map Cd.d (s_182.queue : List (List Int)))), (pin pv_186 (aDK K (dD (s_182.kept : (List (Int × (List Int))))))), (aD K (Cd.d (s_182.sent : Int))), (aLD K (List.map Cd.d (s_182.again : List (T3 Int Int Int)))), (aD K (Cd.d (s_182.silent : Int)))])), some (aD K (Cd.d (upto : Int))), some (aD K (Cd.d (missing : (List (T3 Int Int Int))))), some (aD K (Cd.d (v_169 : Int))), some (aD K (Cd.d (ys_173 : (List (T3 Int Int Int))))), some (pin pv_176 (aDK K (dD ((dOf ys_175) : (List (Int × Bool)))))), some (pin pv_181 (aLD K (List.map Cd.d (ys_180 : List Int)))), some (aD K (Cd.d (number_183 : Int))), none, none, none] rfl (xg_bind fun d_187 hd_187 =>
  (xg_expr (xe_dpop (kvs0 := s_182.kept) (kvs := s_182.kept) hd_187 (xe_fldV 5 (xe_nmV 0 rfl) (Own.slot 0 rfl) T_Sender.cl T_Sender.n_kept nd_Sender rfl rfl) (Own.kid ctnO (Own.slot 0 rfl) 5 rfl) (xe_nm 7 rfl) (Own.kid ctnO (Own.slot 0 rfl) 5 rfl) ⟨rfl, rfl, rfl, rfl⟩) (by exact xg_weak (ρ := [some (pin pa0 (aObj cl_Sender ns_Sender [(aD K (Cd.d (s_182.bits : Int))), (aD K (Cd.d (s_182.window : Int))), (aD K (Cd.d (s_182.low : Int))), (aD K (Cd.d (s_182.next_ : Int))), (aLD K (List.map Cd.d (s_182.queue : List (List Int)))), (pin pv_186 (aDK K (dD ((dDel s_182.kept number_183) : (List (Int × (List Int))))))), (aD K (Cd.d (s_182.sent : Int))), (aLD K (List.map Cd.d (s_182.again : List (T3 Int Int Int)))), (aD K (Cd.d (s_182.silent : Int)))])), some (aD K (Cd.d (upto : Int))), some (aD K (Cd.d (missing : (List (T3 Int Int Int))))), some (aD K (Cd.d (v_169 : Int))), some (aD K (Cd.d (ys_173 : (List (T3 Int Int Int))))), some (pin pv_176 (aDK K (dD ((dOf ys_175) : (List (Int × Bool)))))), some (pin pv_181 (aLD K (List.map Cd.d (ys_180 : List Int)))), some (aD K (Cd.d (number_183 : Int))), none, none, none]) (B := (pin pa0 (o_Sender K cl_Sender cl_BearerError cl_NotValid { s_182 with kept := (dDel s_182.kept number_183) }))) 0 rfl (imp_pin (imp_obj (.cons imp_rfl (.cons imp_rfl (.cons imp_rfl (.cons imp_rfl (.cons imp_rfl (.cons (imp_pinned imp_rfl) (.cons imp_rfl (.cons imp_rfl (.cons imp_rfl .nil))))))))))) (xg_nilS (wk_k (wk_k (wk_k (wk_k (wk_k (wk_k (wk_k (wk_n (wk_n (wk_n (wk_n wk_0)))))))))))))))))) (fun s_188 => (xg_st [some (pin pa0 (o_Sender K cl_Sender cl_BearerError cl_NotValid s_188)), some (aD K (Cd.d (upto : Int))), some (aD K (Cd.d (missing : (List (T3 Int Int Int))))), some (aD K (Cd.d (v_169 : Int))), some (aD K (Cd.d (ys_173 : (List (T3 Int Int Int))))), some (pin pv_176 (aDK K (dD ((dOf ys_175) : (List (Int × Bool)))))), some (pin pv_181 (aLD K (List.map Cd.d (ys_180 : List Int)))), none, none, none, none] rfl (xg_fld 7 (B := (aLD K (List.map Cd.d (([] : (List (T3 Int Int Int))) : List (T3 Int Int Int))))) (xe_is (B := (aLD K (List.map Cd.d (([] : (List (T3 Int Int Int))) : List (T3 Int Int Int))))) (xe_lst xa_nil (Nat.le_of_ble_eq_true rfl)) rfl) (xe_nmV 0 rfl) (Own.slot 0 rfl) T_Sender.cl T_Sender.n_again nd_Sender rfl (xg_st [some (pin pa0 (o_Sender K cl_Sender cl_BearerError cl_NotValid { s_188 with again := ([] : (List (T3 Int Int Int))) })), some (aD K (Cd.d (upto : Int))), some (aD K (Cd.d (missing : (List (T3 Int Int Int))))), some (aD K (Cd.d (v_169 : Int))), some (aD K (Cd.d (ys_173 : (List (T3 Int Int Int))))), some (pin pv_176 (aDK K (dD ((dOf ys_175) : (List (Int × Bool)))))), some (pin pv_181 (aLD K (List.map Cd.d (ys_180 : List Int)))), none, none, none, none] rfl (xg_bind fun g_189 hg_189 =>
  (xg_for (N := (fun s_190 : M_Sender => [some (pin pa0 (o_Sender K cl_Sender cl_BearerError cl_NotValid s_190)), some (aD K (Cd.d (upto : Int))), some (aD K (Cd.d (missing : (List (T3 Int Int Int))))), some (aD K (Cd.d (v_169 : Int))), some (aD K (Cd.d (ys_173 : (List (T3 Int Int Int))))), some (pin pv_176 (aDK K (dD ((dOf ys_175) : (List (Int × Bool)))))), some (pin pv_181 (aLD K (List.map Cd.d (ys_180 : List Int)))), none, none, none, none])) PassesOwn.never rfl (xi_list (xs := (srt3 ys_173)) (cv := Cd.d) (xe_frz (xe_sorted3 (xs := ys_173) (guardO_eq hg_189) (xe_nm 4 rfl) rlD m_sorted))) (wk_k (wk_k (wk_k (wk_k (wk_k (wk_k (wk_k (wk_n (wk_n (wk_n (wk_n wk_0))))))))))) (fun _ => trivial) (fun _ _ => (xp_tup rfl (xps_cons (xp_nm 7) (xps_cons (xp_nm 8) (xps_cons (xp_nm 9) xps_nil))))) (fun number_191 s_190 => (xg_st [some (pin pa0 (o_Sender K cl_Sender cl_BearerError cl_NotValid s_190)), some (aD K (Cd.d (upto : Int))), some (aD K (Cd.d (missing : (List (T3 Int Int Int))))), some (aD K (Cd.d (v_169 : Int))), some (aD K (Cd.d (ys_173 : (List (T3 Int Int Int))))), some (pin pv_176 (aDK K (dD ((dOf ys_175) : (List (Int × Bool)))))), some (pin pv_181 (aLD K (List.map Cd.d (ys_180 : List Int)))), some (aD K (Cd.d (number_191.a : Int))), some (aD K (Cd.d (number_191.b : Int))), some (aD K (Cd.d (number_191.c : Int))), none] rfl (xg_if (N := (fun s_203 : M_Sender => [some (pin pa0 (o_Sender K cl_Sender cl_BearerError cl_NotValid s_203)), some (aD K (Cd.d (upto : Int))), some (aD K (Cd.d (missing : (List (T3 Int Int Int))))), some (aD K (Cd.d (v_169 : Int))), some (aD K (Cd.d (ys_173 : (List (T3 Int Int Int))))), some (pin pv_176 (aDK K (dD ((dOf ys_175) : (List (Int × Bool)))))), some (pin pv_181 (aLD K (List.map Cd.d (ys_180 : List Int)))), some (aD K (Cd.d (number_191.a : Int))), some (aD K (Cd.d (number_191.b : Int))), some (aD K (Cd.d (number_191.c : Int))), none])) (xt_w (xw_and (xt_pinC ctnO (Own.slot 0 rfl) 5 rfl fun pv_200 => (xt_weakE (ρ1 := [some (pin pa0 (aObj cl_Sender ns_Sender [(aD K (Cd.d (s_190.bits : Int))), (aD K (Cd.d (s_190.window : Int))), (aD K (Cd.d (s_190.low : Int))), (aD K (Cd.d (s_190.next_ : Int))), (aLD K (List.map Cd.d (s_190.queue : List (List Int)))), (pin pv_200 (aDK K (dD (s_190.kept : (List (Int × (List Int))))))), (aD K (Cd.d (s_190.sent : Int))), (aLD K (List.map Cd.d (s_190.again : List (T3 Int Int Int)))), (aD K (Cd.d (s_190.silent : Int)))])), some (aD K (Cd.d (upto : Int))), some (aD K (Cd.d (missing : (List (T3 Int Int Int))))), some (aD K (Cd.d (v_169 : Int))), some (aD K (Cd.d (ys_173 : (List (T3 Int Int Int))))), some (pin pv_176 (aDK K (dD ((dOf ys_175) : (List (Int × Bool)))))), some (pin pv_181 (aLD K (List.map Cd.d (ys_180 : List Int)))), some (aD K (Cd.d (number_191.a : Int))), some (aD K (Cd.d (number_191.b : Int))), some (aD K (Cd.d (number_191.c : Int))), none]) (B' := (pin pa0 (o_Sender K cl_Sender cl_BearerError cl_NotValid s_190))) (xt_stE [some (pin pa0 (aObj cl_Sender ns_Sender [(aD K (Cd.d (s_190.bits : Int))), (aD K (Cd.d (s_190.window : Int))), (aD K (Cd.d (s_190.low : Int))), (aD K (Cd.d (s_190.next_ : Int))), (aLD K (List.map Cd.d (s_190.queue : List (List Int)))), (pin pv_200 (aDK K (dD (s_190.kept : (List (Int × (List Int))))))), (aD K (Cd.d (s_190.sent : Int))), (aLD K (List.map Cd.d (s_190.again : List (T3 Int Int Int)))), (aD K (Cd.d (s_190.silent : Int)))])), some (aD K (Cd.d (upto : Int))), some (aD K (Cd.d (missing : (List (T3 Int Int Int))))), some (aD K (Cd.d (v_169 : Int))), some (aD K (Cd.d (ys_173 : (List (T3 Int Int Int))))), some (pin pv_176 (aDK K (dD ((dOf ys_175) : (List (Int × Bool)))))), some (pin pv_181 (aLD K (List.map Cd.d (ys_180 : List Int)))), some (aD K (Cd.d (number_191.a : Int))), some (aD K (Cd.d (number_191.b : Int))), some (aD K (Cd.d (number_191.c : Int))), none] (xt_st0 [some (pin pa0 (aObj cl_Sender ns_Sender [(aD K (Cd.d (s_190.bits : Int))), (aD K (Cd.d (s_190.window : Int))), (aD K (Cd.d (s_190.low : Int))), (aD K (Cd.d (s_190.next_ : Int))), (aLD K (List.map Cd.d (s_190.queue : List (List Int)))), (pin pv_200 (aDK K (dD (s_190.kept : (List (Int × (List Int))))))), (aD K (Cd.d (s_190.sent : Int))), (aLD K (List.map Cd.d (s_190.again : List (T3 Int Int Int)))), (aD K (Cd.d (s_190.silent : Int)))])), some (aD K (Cd.d (upto : Int))), some (aD K (Cd.d (missing : (List (T3 Int Int Int))))), some (aD K (Cd.d (v_169 : Int))), some (aD K (Cd.d (ys_173 : (List (T3 Int Int Int))))), some (pin pv_176 (aDK K (dD ((dOf ys_175) : (List (Int × Bool)))))), some (pin pv_181 (aLD K (List.map Cd.d (ys_180 : List Int)))), some (aD K (Cd.d (number_191.a : Int))), some (aD K (Cd.d (number_191.b : Int))), some (aD K (Cd.d (number_191.c : Int))), none] rfl (xt_k (xk_din (kvs := s_190.kept) (k := number_191.a) hr.units (xe_nm 7 rfl) (xe_fldV 5 (xe_nmV 0 rfl) (Own.slot 0 rfl) T_Sender.cl T_Sender.n_kept nd_Sender rfl rfl) (Own.kid ctnO (Own.slot 0 rfl) 5 rfl))))) 0 rfl (imp_pin (imp_obj (.cons imp_rfl (.cons imp_rfl (.cons imp_rfl (.cons imp_rfl (.cons imp_rfl (.cons (imp_pinned imp_rfl) (.cons imp_rfl (.cons imp_rfl (.cons imp_rfl .nil))))))))))))) fun _ => (xw_and1 (xt_k (xk_lt (xe_nm 7 rfl) (xe_nm 3 rfl)))))) (fun _ => (xg_st [some (pin pa0 (o_Sender K cl_Sender cl_BearerError cl_NotValid s_190)), some (aD K (Cd.d (upto : Int))), some (aD K (Cd.d (missing : (List (T3 Int Int Int))))), some (aD K (Cd.d (v_169 : Int))), some (aD K (Cd.d (ys_173 : (List (T3 Int Int Int))))), some (pin pv_176 (aDK K (dD ((dOf ys_175) : (List (Int × Bool)))))), some (pin pv_181 (aLD K (List.map Cd.d (ys_180 : List Int)))), some (aD K (Cd.d (number_191.a : Int))), some (aD K (Cd.d (number_191.b : Int))), some (aD K (Cd.d (number_191.c : Int))), none] rfl (xg_bind fun v_204 hv_204 =>
  (xg_bind fun v_205 hv_205 =>
  (xg_expr (xe_methX (xx := (s_190, number_191.a, number_191.b, (min (number_191.c + 1) v_204))) c_Sender_ask T_Sender.cl nm_Sender_ask (hr.mono (by decide)) hv_205 (xe_nmV 0 rfl) (Own.slot 0 rfl) (xx_of (xa_cons (xe_nm 7 rfl) (xa_cons (xe_nm 8 rfl) (xa_cons (xe_min2 rfl (xe_add (xe_nm 9 rfl) xe_int) (xe_methX (xx := (s_190, number_191.a)) c_Sender_sent_of T_Sender.cl nm_Sender_sent_of (hr.mono (by decide)) hv_204 (xe_nmV 0 rfl) (Own.slot 0 rfl) (xx_of (xa_cons (xe_nm 7 rfl) xa_nil)) (Own.slot 0 rfl) rfl rfl rfl rfl (Fill.cons 0 (List.Mem.head _) rfl (Own.slot 0 rfl) Fill.nil)) m_min) xa_nil)))) (Own.slot 0 rfl) rfl rfl rfl rfl (Fill.cons 0 (List.Mem.head _) rfl (Own.slot 0 rfl) Fill.nil)) (xg_nilS (wk_k (wk_k (wk_k (wk_k (wk_k (wk_k (wk_k (wk_k (wk_k (wk_k (wk_n wk_0))))))))))))))))) (fun _ => (xg_nilS (wk_k (wk_k (wk_k (wk_k (wk_k (wk_k (wk_k (wk_k (wk_k (wk_k (wk_n wk_0))))))))))))) (fun s_203 => (xg_nilS (wk_k (wk_k (wk_k (wk_k (wk_k (wk_k (wk_k (wk_n (wk_n (wk_n (wk_n wk_0)))))))))))))))) (fun s_206 => (xg_pinC ctnO (Own.slot 0 rfl) 5 rfl fun pv_207 => (xg_st [some (pin pa0 (aObj cl_Sender ns_Sender [(aD K (Cd.d (s_206.bits : Int))), (aD K (Cd.d (s_206.window : Int))), (aD K (Cd.d (s_206.low : Int))), (aD K (Cd.d (s_206.next_ : Int))), (aLD K (List.map Cd.d (s_206.queue : List (List Int)))), (pin pv_207 (aDK K (dD (s_206.kept : (List (Int × (List Int))))))), (aD K (Cd.d (s_206.sent : Int))), (aLD K (List.map Cd.d (s_206.again : List (T3 Int Int Int)))), (aD K (Cd.d (s_206.silent : Int)))])), some (aD K (Cd.d (upto : Int))), some (aD K (Cd.d (missing : (List (T3 Int Int Int))))), some (aD K (Cd.d (v_169 : Int))), some (aD K (Cd.d (ys_173 : (List (T3 Int Int Int))))), some (pin pv_176 (aDK K (dD ((dOf ys_175) : (List (Int × Bool)))))), some (pin pv_181 (aLD K (List.map Cd.d (ys_180 : List Int)))), none, none, none, none] rfl (xg_lett fun low_208 hlow_208 =>
  (xg_fld 2 (B := (aD K (Cd.d (low_208 : Int)))) (xe_nv (v := ((Option.getD (minI (dKeys s_206.kept)) s_206.next_) : Int)) (xe_dminD (kvs := s_206.kept) rfl (xe_fldV 5 (xe_nmV 0 rfl) (Own.slot 0 rfl) T_Sender.cl T_Sender.n_kept nd_Sender rfl rfl) (Own.kid ctnO (Own.slot 0 rfl) 5 rfl) (xe_fldD 3 (xe_nmV 0 rfl) (Own.slot 0 rfl) T_Sender.cl T_Sender.n_next nd_Sender rfl rfl) m_min) hlow_208) (xe_nmV 0 rfl) (Own.slot 0 rfl) T_Sender.cl T_Sender.n_low nd_Sender rfl (by exact xg_weak (ρ := [some (pin pa0 (aObj cl_Sender ns_Sender [(aD K (Cd.d (s_206.bits : Int))), (aD K (Cd.d (s_206.window : Int))), (aD K (Cd.d (low_208 : Int))), (aD K (Cd.d (s_206.next_ : Int))), (aLD K (List.map Cd.d (s_206.queue : List (List Int)))), (pin pv_207 (aDK K (dD (s_206.kept : (List (Int × (List Int))))))), (aD K (Cd.d (s_206.sent : Int))), (aLD K (List.map Cd.d (s_206.again : List (T3 Int Int Int)))), (aD K (Cd.d (s_206.silent : Int)))])), some (aD K (Cd.d (upto : Int))), some (aD K (Cd.d (missing : (List (T3 Int Int Int))))), some (aD K (Cd.d (v_169 : Int))), some (aD K (Cd.d (ys_173 : (List (T3 Int Int Int))))), some (pin pv_176 (aDK K (dD ((dOf ys_175) : (List (Int × Bool)))))), some (pin pv_181 (aLD K (List.map Cd.d (ys_180 : List Int)))), none, none, none, none]) (B := (pin pa0 (o_Sender K cl_Sender cl_BearerError cl_NotValid { s_206 with low := low_208 }))) 0 rfl (imp_pin (imp_obj (.cons imp_rfl (.cons imp_rfl (.cons imp_rfl (.cons imp_rfl (.cons imp_rfl (.cons (imp_pinned imp_rfl) (.cons imp_rfl (.cons imp_rfl (.cons imp_rfl .nil))))))))))) (xg_st [some (pin pa0 (o_Sender K cl_Sender cl_BearerError cl_NotValid { s_206 with low := low_208 })), some (aD K (Cd.d (upto : Int))), some (aD K (Cd.d (missing : (List (T3 Int Int Int))))), some (aD K (Cd.d (v_169 : Int))), some (aD K (Cd.d (ys_173 : (List (T3 Int Int Int))))), some (pin pv_176 (aDK K (dD ((dOf ys_175) : (List (Int × Bool)))))), some (pin pv_181 (aLD K (List.map Cd.d (ys_180 : List Int)))), none, none, none, none] rfl (xg_freeze 6 rfl (xg_st [some (pin pa0 (o_Sender K cl_Sender cl_BearerError cl_NotValid { s_206 with low := low_208 })), some (aD K (Cd.d (upto : Int))), some (aD K (Cd.d (missing : (List (T3 Int Int Int))))), some (aD K (Cd.d (v_169 : Int))), some (aD K (Cd.d (ys_173 : (List (T3 Int Int Int))))), some (pin pv_176 (aDK K (dD ((dOf ys_175) : (List (Int × Bool)))))), some (aD K (Cd.d (ys_180 : (List Int)))), none, none, none, none] rfl (xg_ret (A := (aD K (Cd.d ((some ys_180) : (Option (List Int)))))) (xe_is (B := aD K (Cd.d (some ys_180 : (Option (List Int))))) (xe_nm 6 rfl) rfl) (wk_k (wk_k (wk_n (wk_n (wk_n (wk_n (wk_n (wk_n (wk_n (wk_n (wk_n (wk_n wk_0)))))))))))))))))))))))))))))))) (Nat.le_of_ble_eq_true rfl) rfl nd (blkOk_by (N := ["self", "upto", "missing", "end", "told", "absent", "confirmed", "number", "first", "last", "row"]) (sc := defScope s_Sender_take_status) (by decide +kernel)) (fun _ _ _ _ _ => pg_name nd rfl (.inl rfl)))))))))) (Nat.le_of_ble_eq_true rfl)  rfl nd (blkOk_by (N := ["self", "upto", "missing", "end", "told", "absent", "confirmed", "number", "first", "last", "row"]) (sc := defScope s_Sender_take_status) (by decide +kernel)) (fun _ _ _ _ _ => (pgs_cons (pg_name nd rfl (.inl rfl)) (pgs_cons (pg_name nd rfl (.inl rfl)) (pgs_cons (pg_name nd rfl (.inl rfl)) pgs_nil)))))))))))))))
def mb_Sender_tick (self : M_Sender) : Option (M_Sender ⊕ M_Sender) :=
  (Option.bind ((if (decide ((((List.length self.kept : Nat) : Int) : Int) = 0)) = true then some true else (Option.bind (m_Sender_has_work self) fun v_212 => (some v_212)))) fun c_213 =>
  (if c_213 = true then
  Option.map Sum.inl (some { self with silent := 0 }) else
  (Option.bind (if (decide (4 ≤ (self.silent + 1))) = true then
  (Option.bind (m_Sender_sent_of { self with silent := 0 } self.low) fun v_217 =>
  (Option.bind (m_Sender_ask { self with silent := 0 } self.low 0 v_217) fun v_218 =>
  (some v_218))) else
  (some { self with silent := (self.silent + 1) })) fun s_216 =>
  (some (Sum.inr s_216)))))
def m_Sender_tick (self : M_Sender) : Option M_Sender := Option.map (Sum.elim id id) (mb_Sender_tick self)
abbrev sp_Sender_tick (K : PySem.W.Frag) (cl_Sender : Addr) (cl_BearerError : Addr) (cl_NotValid : Addr) : Sp := SpM (fun x : M_Sender => [(o_Sender K cl_Sender cl_BearerError cl_NotValid x)]) (fun x => m_Sender_tick x) (fun x (r : M_Sender) => [some (o_Sender K cl_Sender cl_BearerError cl_NotValid r)]) (fun _ r => aD K .none)
abbrev s_Sender_tick : Stmt := inClass (topS 22) 13
theorem sc_Sender_tick : FnScope ["self"] ["self"] (defScope s_Sender_tick) := ⟨rfl, rfl, rfl, by decide +kernel, rfl, by decide +kernel, by decide +kernel⟩
set_option maxHeartbeats 4000000 in
theorem ok_Sender_tick {P : Program} {w : World} {K : PySem.W.Frag} {mg : Str → Option Value} {base : Heap} {f : Addr} {cl_Sender : Addr} {cl_BearerError : Addr} {cl_NotValid : Addr} {fd : FuncData} (F : Fun K "tick" "Sender.tick" s_Sender_tick f fd) (T_Sender : CF_Sender K cl_Sender) (X_BearerError : ExK K mg "BearerError" cl_BearerError) (E_BearerError : ExcC K cl_BearerError) (X_NotValid : ExK K mg "NotValid" cl_NotValid) (E_NotValid : ExcC K cl_NotValid) (xm_NotValid_BearerError : PySem.W.exmOne K (.ref cl_NotValid) (.ref cl_BearerError) = some true) (xk_NotValid_NotValid : PySem.W.kitOne K (.ref cl_NotValid) (.ref cl_NotValid) = some true) (m_len : mg "len" = none) {t_PATIENCE : Tok} (g_PATIENCE : mg "PATIENCE" = some (.int 4 t_PATIENCE)) (c_Sender_ask : CalM P w K mg base 1 cl_Sender "ask" (sp_Sender_ask K cl_Sender cl_BearerError cl_NotValid)) (c_Sender_has_work : CalM P w K mg base 2 cl_Sender "has_work" (sp_Sender_has_work K cl_Sender cl_BearerError cl_NotValid)) (c_Sender_sent_of : CalM P w K mg base 1 cl_Sender "sent_of" (sp_Sender_sent_of K cl_Sender cl_BearerError cl_NotValid)) : FnOk P w K mg base CX0 3 f fd ["self"] (sp_Sender_tick K cl_Sender cl_BearerError cl_NotValid) :=
  fn_okB (m := fun x : M_Sender => mb_Sender_tick x) (k := 2) [true] F sc_Sender_tick rfl (fun _ => rfl) (fun _ _ => rfl) fun x vs cdv A outer s H E hv hr => by
    match x, vs, hv with
    | self, [pa0], _ =>
      have nd := sc_Sender_tick.nd
      show XG _ _ [some (pin pa0 (o_Sender K cl_Sender cl_BearerError cl_NotValid self))] (mb_Sender_tick self) (oB (fun r : M_Sender => [some (aD K .none), some (pin pa0 (o_Sender K cl_Sender cl_BearerError cl_NotValid r))]) fun r : M_Sender => [some (pin pa0 (o_Sender K cl_Sender cl_BearerError cl_NotValid r))])
      unfold mb_Sender_tick
      exact (xg_st [some (pin pa0 (o_Sender K cl_Sender cl_BearerError cl_NotValid self))] rfl (xg_bind fun c_213 hc_213 =>
  (xg_ifRB (u := []) (xt_w (xw_orM (xt_pinC ctnO (Own.slot 0 rfl) 5 rfl fun pv_211 => (xt_weakE (ρ1 := [some (pin pa0 (aObj cl_Sender ns_Sender [(aD K (Cd.d (self.bits : Int))), (aD K (Cd.d (self.window : Int))), (aD K (Cd.d (self.low : Int))), (aD K (Cd.d (self.next_ : Int))), (aLD K (List.map Cd.d (self.queue : List (List Int)))), (pin pv_211 (aDK K (dD (self.kept : (List (Int × (List Int))))))), (aD K (Cd.d (self.sent : Int))), (aLD K (List.map Cd.d (self.again : List (T3 Int Int Int)))), (aD K (Cd.d (self.silent : Int)))]))]) (B' := (pin pa0 (o_Sender K cl_Sender cl_BearerError cl_NotValid self))) (xt_stE [some (pin pa0 (aObj cl_Sender ns_Sender [(aD K (Cd.d (self.bits : Int))), (aD K (Cd.d (self.window : Int))), (aD K (Cd.d (self.low : Int))), (aD K (Cd.d (self.next_ : Int))), (aLD K (List.map Cd.d (self.queue : List (List Int)))), (pin pv_211 (aDK K (dD (self.kept : (List (Int × (List Int))))))), (aD K (Cd.d (self.sent : Int))), (aLD K (List.map Cd.d (self.again : List (T3 Int Int Int)))), (aD K (Cd.d (self.silent : Int)))]))] (xt_st0 [some (pin pa0 (aObj cl_Sender ns_Sender [(aD K (Cd.d (self.bits : Int))), (aD K (Cd.d (self.window : Int))), (aD K (Cd.d (self.low : Int))), (aD K (Cd.d (self.next_ : Int))), (aLD K (List.map Cd.d (self.queue : List (List Int)))), (pin pv_211 (aDK K (dD (self.kept : (List (Int × (List Int))))))), (aD K (Cd.d (self.sent : Int))), (aLD K (List.map Cd.d (self.again : List (T3 Int Int Int)))), (aD K (Cd.d (self.silent : Int)))]))] rfl (xt_k (xkc_eq (x := (((List.length self.kept : Nat) : Int) : Int)) (y := (0 : Int)) hr.units (xe_dlen (kvs := self.kept) (xe_fldV 5 (xe_nmV 0 rfl) (Own.slot 0 rfl) T_Sender.cl T_Sender.n_kept nd_Sender rfl rfl) (Own.kid ctnO (Own.slot 0 rfl) 5 rfl) m_len) xe_int rdD rdD)))) 0 rfl (imp_pin (imp_obj (.cons imp_rfl (.cons imp_rfl (.cons imp_rfl (.cons imp_rfl (.cons imp_rfl (.cons (imp_pinned imp_rfl) (.cons imp_rfl (.cons imp_rfl (.cons imp_rfl .nil))))))))))))) (xwm_or1 (xtm_bind fun v_212 hv_212 => (xtm_some (xt_v (xe_methX0 (xx := self) c_Sender_has_work T_Sender.cl nm_Sender_has_work (hr.mono (by decide)) hv_212 (xe_nmV 0 rfl) (Own.slot 0 rfl) (Own.slot 0 rfl) rfl rfl rfl (Fill.cons 0 (List.Mem.head _) rfl (Own.slot 0 rfl) Fill.nil)))))) hc_213)) (fun _ => (xg_st [some (pin pa0 (o_Sender K cl_Sender cl_BearerError cl_NotValid self))] rfl (xg_fld 8 (B := (aD K (Cd.d (0 : Int)))) xe_int (xe_nmV 0 rfl) (Own.slot 0 rfl) T_Sender.cl T_Sender.n_silent nd_Sender rfl (xg_st [some (pin pa0 (o_Sender K cl_Sender cl_BearerError cl_NotValid { self with silent := 0 }))] rfl (xg_retN (wk_k (wk_k wk_0))))))) (fun _ => (xg_st [some (pin pa0 (o_Sender K cl_Sender cl_BearerError cl_NotValid self))] rfl (xg_fldA 8 in_add rAdd_of (xe_nmV 0 rfl) (Own.slot 0 rfl) rfl xe_int (Own.slot 0 rfl) T_Sender.cl T_Sender.n_silent nd_Sender rfl (xg_st [some (pin pa0 (aObj cl_Sender ns_Sender [(aD K (Cd.d (self.bits : Int))), (aD K (Cd.d (self.window : Int))), (aD K (Cd.d (self.low : Int))), (aD K (Cd.d (self.next_ : Int))), (aLD K (List.map Cd.d (self.queue : List (List Int)))), (aDK K (dD (self.kept : (List (Int × (List Int)))))), (aD K (Cd.d (self.sent : Int))), (aLD K (List.map Cd.d (self.again : List (T3 Int Int Int)))), (aD K (Cd.d ((self.silent + 1) : Int)))]))] rfl (xg_if (N := (fun s_216 : M_Sender => [some (pin pa0 (o_Sender K cl_Sender cl_BearerError cl_NotValid s_216))])) (xt_k (xk_ge (xe_fldD 8 (xe_nmV 0 rfl) (Own.slot 0 rfl) T_Sender.cl T_Sender.n_silent nd_Sender rfl rfl) (xe_gInt rfl g_PATIENCE ⟨_, rfl⟩))) (fun _ => (xg_st [some (pin pa0 (o_Sender K cl_Sender cl_BearerError cl_NotValid { self with silent := (self.silent + 1) }))] rfl (xg_fld 8 (B := (aD K (Cd.d (0 : Int)))) xe_int (xe_nmV 0 rfl) (Own.slot 0 rfl) T_Sender.cl T_Sender.n_silent nd_Sender rfl (xg_st [some (pin pa0 (aObj cl_Sender ns_Sender [(aD K (Cd.d (self.bits : Int))), (aD K (Cd.d (self.window : Int))), (aD K (Cd.d (self.low : Int))), (aD K (Cd.d (self.next_ : Int))), (aLD K (List.map Cd.d (self.queue : List (List Int)))), (aDK K (dD (self.kept : (List (Int × (List Int)))))), (aD K (Cd.d (self.sent : Int))), (aLD K (List.map Cd.d (self.again : List (T3 Int Int Int)))), (aD K (Cd.d (0 : Int)))]))] rfl (xg_bind fun v_217 hv_217 =>
  (xg_bind fun v_218 hv_218 =>
  (xg_expr (xe_methX (xx := (({ self with silent := 0 } : M_Sender), self.low, 0, v_217)) c_Sender_ask T_Sender.cl nm_Sender_ask (hr.mono (by decide)) hv_218 (xe_nmV 0 rfl) (Own.slot 0 rfl) (xx_of (xa_cons (xe_fldD 2 (xe_nmV 0 rfl) (Own.slot 0 rfl) T_Sender.cl T_Sender.n_low nd_Sender rfl rfl) (xa_cons xe_int (xa_cons (xe_methX (xx := (({ self with silent := 0 } : M_Sender), self.low)) c_Sender_sent_of T_Sender.cl nm_Sender_sent_of (hr.mono (by decide)) hv_217 (xe_nmV 0 rfl) (Own.slot 0 rfl) (xx_of (xa_cons (xe_fldD 2 (xe_nmV 0 rfl) (Own.slot 0 rfl) T_Sender.cl T_Sender.n_low nd_Sender rfl rfl) xa_nil)) (Own.slot 0 rfl) rfl rfl rfl rfl (Fill.cons 0 (List.Mem.head _) rfl (Own.slot 0 rfl) Fill.nil)) xa_nil)))) (Own.slot 0 rfl) rfl rfl rfl rfl (Fill.cons 0 (List.Mem.head _) rfl (Own.slot 0 rfl) Fill.nil)) (xg_nilS (wk_k wk_0))))))))) (fun _ => (xg_nilS (wk_k wk_0))) (fun s_216 => (xg_nilB (wk_k wk_0)))))))))))
def m_Sender_unconfirmed (self : M_Sender) : Option (List (Int × (List Int))) :=
  (Option.bind (guardO (List.length self.kept ≤ 100000)) fun g_220 =>
  (Option.bind (mapO (fun number_221 : Int => (Option.bind (dGet self.kept number_221) fun d_223 => (some (number_221, d_223)))) (srtI (dKeys self.kept))) fun ys_224 =>
  (some ys_224)))
abbrev sp_Sender_unconfirmed (K : PySem.W.Frag) (cl_Sender : Addr) (cl_BearerError : Addr) (cl_NotValid : Addr) : Sp := SpM (fun x : M_Sender => [(o_Sender K cl_Sender cl_BearerError cl_NotValid x)]) (fun x => m_Sender_unconfirmed x) (fun x (r : (List (Int × (List Int)))) => [some (o_Sender K cl_Sender cl_BearerError cl_NotValid x)]) (fun _ r => (aLD K (List.map Cd.d (r : List (Int × (List Int))))))
abbrev s_Sender_unconfirmed : Stmt := inClass (topS 22) 14
theorem sc_Sender_unconfirmed : FnScope ["self", "number"] ["self"] (defScope s_Sender_unconfirmed) := ⟨rfl, rfl, rfl, by decide +kernel, rfl, by decide +kernel, by decide +kernel⟩
set_option maxHeartbeats 4000000 in
theorem ok_Sender_unconfirmed {P : Program} {w : World} {K : PySem.W.Frag} {mg : Str → Option Value} {base : Heap} {f : Addr} {cl_Sender : Addr} {cl_BearerError : Addr} {cl_NotValid : Addr} {fd : FuncData} (F : Fun K "unconfirmed" "Sender.unconfirmed" s_Sender_unconfirmed f fd) (T_Sender : CF_Sender K cl_Sender) (X_BearerError : ExK K mg "BearerError" cl_BearerError) (E_BearerError : ExcC K cl_BearerError) (X_NotValid : ExK K mg "NotValid" cl_NotValid) (E_NotValid : ExcC K cl_NotValid) (xm_NotValid_BearerError : PySem.W.exmOne K (.ref cl_NotValid) (.ref cl_BearerError) = some true) (xk_NotValid_NotValid : PySem.W.kitOne K (.ref cl_NotValid) (.ref cl_NotValid) = some true) (m_list : mg "list" = none) (m_sorted : mg "sorted" = none) : FnOk P w K mg base CX0 1 f fd ["self"] (sp_Sender_unconfirmed K cl_Sender cl_BearerError cl_NotValid) :=
  fn_ok (k := 0) [true] F sc_Sender_unconfirmed rfl (fun _ => rfl) (fun _ _ => rfl) fun x vs cdv A outer s H E hv hr => by
    match x, vs, hv with
    | self, [pa0], _ =>
      have nd := sc_Sender_unconfirmed.nd
      show XG _ _ [some (pin pa0 (o_Sender K cl_Sender cl_BearerError cl_NotValid self)), none] (m_Sender_unconfirmed self) (oR fun r : (List (Int × (List Int))) => [some ((aLD K (List.map Cd.d (r : List (Int × (List Int)))))), some (pin pa0 (o_Sender K cl_Sender cl_BearerError cl_NotValid self)), none])
      unfold m_Sender_unconfirmed
      exact (xg_pinC ctnO (Own.slot 0 rfl) 5 rfl fun pv_219 => (xg_st [some (pin pa0 (aObj cl_Sender ns_Sender [(aD K (Cd.d (self.bits : Int))), (aD K (Cd.d (self.window : Int))), (aD K (Cd.d (self.low : Int))), (aD K (Cd.d (self.next_ : Int))), (aLD K (List.map Cd.d (self.queue : List (List Int)))), (pin pv_219 (aDK K (dD (self.kept : (List (Int × (List Int))))))), (aD K (Cd.d (self.sent : Int))), (aLD K (List.map Cd.d (self.again : List (T3 Int Int Int)))), (aD K (Cd.d (self.silent : Int)))])), none] rfl (xg_bind fun g_220 hg_220 =>
  (xg_bind fun ys_224 hys_224 =>
  (xg_ret (A := (aLD K (List.map Cd.d (ys_224 : List (Int × (List Int)))))) (xe_weak (ρ1 := [some (pin pa0 (aObj cl_Sender ns_Sender [(aD K (Cd.d (self.bits : Int))), (aD K (Cd.d (self.window : Int))), (aD K (Cd.d (self.low : Int))), (aD K (Cd.d (self.next_ : Int))), (aLD K (List.map Cd.d (self.queue : List (List Int)))), (pin pv_219 (aDK K (dD (self.kept : (List (Int × (List Int))))))), (aD K (Cd.d (self.sent : Int))), (aLD K (List.map Cd.d (self.again : List (T3 Int Int Int)))), (aD K (Cd.d (self.silent : Int)))])), none]) (B' := (pin pa0 (o_Sender K cl_Sender cl_BearerError cl_NotValid self))) (xe_stE [some (pin pa0 (aObj cl_Sender ns_Sender [(aD K (Cd.d (self.bits : Int))), (aD K (Cd.d (self.window : Int))), (aD K (Cd.d (self.low : Int))), (aD K (Cd.d (self.next_ : Int))), (aLD K (List.map Cd.d (self.queue : List (List Int)))), (pin pv_219 (aDK K (dD (self.kept : (List (Int × (List Int))))))), (aD K (Cd.d (self.sent : Int))), (aLD K (List.map Cd.d (self.again : List (T3 Int Int Int)))), (aD K (Cd.d (self.silent : Int)))])), none] (xe_lc (xc_imp (xc_mapO 1 hys_224 (xi_list (xs := (srtI (dKeys self.kept))) (cv := Cd.d) (xe_frz (xe_dsortedN (kvs := self.kept) rfl (guardO_eq hg_220) (xe_fldV 5 (xe_nmV 0 rfl) (Own.slot 0 rfl) T_Sender.cl T_Sender.n_kept nd_Sender rfl rfl) (Own.kid ctnO (Own.slot 0 rfl) 5 rfl) m_sorted))) trivial (Nat.le_of_ble_eq_true rfl) (el := fun y => (aD K (Cd.d (y : (Int × (List Int)))))) (fun _ _ _ _ _ number_221 => (xem_bind fun d_223 hd_223 => (xem_some (xe_tup (ds := [Cd.d (number_221 : Int), Cd.d (d_223 : (List Int))]) (xa_cons (xe_nm 1 rfl) (xa_cons (xe_frz (xe_list (xe_dget (kvs := self.kept) hr.units hd_223 (xe_fldV 5 (xe_nmV 0 rfl) (Own.slot 0 rfl) T_Sender.cl T_Sender.n_kept nd_Sender rfl rfl) (xe_nm 1 rfl) (Own.kid ctnO (Own.slot 0 rfl) 5 rfl)) rlD m_list)) xa_nil)) (Nat.le_of_ble_eq_true rfl)))))) (aLD_map Cd.d _)) rfl nd (blkOk_by (N := ["self", "number"]) (sc := defScope s_Sender_unconfirmed) (by decide +kernel)) (fun _ _ _ _ _ => pg_name nd rfl (.inl rfl)))) 0 rfl (imp_pin (imp_obj (.cons imp_rfl (.cons imp_rfl (.cons imp_rfl (.cons imp_rfl (.cons imp_rfl (.cons (imp_pinned imp_rfl) (.cons imp_rfl (.cons imp_rfl (.cons imp_rfl .nil)))))))))))) (wk_k (wk_k (wk_n wk_0))))))))
def m_Sender_waiting (self : M_Sender) : Option (List (List Int)) :=
  (Option.bind (mapO (fun packet_226 : (List Int) => (some packet_226)) self.queue) fun ys_227 =>
  (some ys_227))
abbrev sp_Sender_waiting (K : PySem.W.Frag) (cl_Sender : Addr) (cl_BearerError : Addr) (cl_NotValid : Addr) : Sp := SpM (fun x : M_Sender => [(o_Sender K cl_Sender cl_BearerError cl_NotValid x)]) (fun x => m_Sender_waiting x) (fun x (r : (List (List Int))) => [some (o_Sender K cl_Sender cl_BearerError cl_NotValid x)]) (fun _ r => (aLD K (List.map Cd.d (r : List (List Int)))))
abbrev s_Sender_waiting : Stmt := inClass (topS 22) 15
theorem sc_Sender_waiting : FnScope ["self", "packet"] ["self"] (defScope s_Sender_waiting) := ⟨rfl, rfl, rfl, by decide +kernel, rfl, by decide +kernel, by decide +kernel⟩
set_option maxHeartbeats 4000000 in
theorem ok_Sender_waiting {P : Program} {w : World} {K : PySem.W.Frag} {mg : Str → Option Value} {base : Heap} {f : Addr} {cl_Sender : Addr} {cl_BearerError : Addr} {cl_NotValid : Addr} {fd : FuncData} (F : Fun K "waiting" "Sender.waiting" s_Sender_waiting f fd) (T_Sender : CF_Sender K cl_Sender) (X_BearerError : ExK K mg "BearerError" cl_BearerError) (E_BearerError : ExcC K cl_BearerError) (X_NotValid : ExK K mg "NotValid" cl_NotValid) (E_NotValid : ExcC K cl_NotValid) (xm_NotValid_BearerError : PySem.W.exmOne K (.ref cl_NotValid) (.ref cl_BearerError) = some true) (xk_NotValid_NotValid : PySem.W.kitOne K (.ref cl_NotValid) (.ref cl_NotValid) = some true) (m_list : mg "list" = none) : FnOk P w K mg base CX0 1 f fd ["self"] (sp_Sender_waiting K cl_Sender cl_BearerError cl_NotValid) :=
  fn_ok (k := 0) [true] F sc_Sender_waiting rfl (fun _ => rfl) (fun _ _ => rfl) fun x vs cdv A outer s H E hv hr => by
    match x, vs, hv with
    | self, [pa0], _ =>
      have nd := sc_Sender_waiting.nd
      show XG _ _ [some (pin pa0 (o_Sender K cl_Sender cl_BearerError cl_NotValid self)), none] (m_Sender_waiting self) (oR fun r : (List (List Int)) => [some ((aLD K (List.map Cd.d (r : List (List Int))))), some (pin pa0 (o_Sender K cl_Sender cl_BearerError cl_NotValid self)), none])
      unfold m_Sender_waiting
      exact (xg_pinC ctnO (Own.slot 0 rfl) 4 rfl fun pv_225 => (xg_st [some (pin pa0 (aObj cl_Sender ns_Sender [(aD K (Cd.d (self.bits : Int))), (aD K (Cd.d (self.window : Int))), (aD K (Cd.d (self.low : Int))), (aD K (Cd.d (self.next_ : Int))), (pin pv_225 (aLD K (List.map Cd.d (self.queue : List (List Int))))), (aDK K (dD (self.kept : (List (Int × (List Int)))))), (aD K (Cd.d (self.sent : Int))), (aLD K (List.map Cd.d (self.again : List (T3 Int Int Int)))), (aD K (Cd.d (self.silent : Int)))])), none] rfl (xg_bind fun ys_227 hys_227 =>
  (xg_ret (A := (aLD K (List.map Cd.d (ys_227 : List (List Int))))) (xe_weak (ρ1 := [some (pin pa0 (aObj cl_Sender ns_Sender [(aD K (Cd.d (self.bits : Int))), (aD K (Cd.d (self.window : Int))), (aD K (Cd.d (self.low : Int))), (aD K (Cd.d (self.next_ : Int))), (pin pv_225 (aLD K (List.map Cd.d (self.queue : List (List Int))))), (aDK K (dD (self.kept : (List (Int × (List Int)))))), (aD K (Cd.d (self.sent : Int))), (aLD K (List.map Cd.d (self.again : List (T3 Int Int Int)))), (aD K (Cd.d (self.silent : Int)))])), none]) (B' := (pin pa0 (o_Sender K cl_Sender cl_BearerError cl_NotValid self))) (xe_stE [some (pin pa0 (aObj cl_Sender ns_Sender [(aD K (Cd.d (self.bits : Int))), (aD K (Cd.d (self.window : Int))), (aD K (Cd.d (self.low : Int))), (aD K (Cd.d (self.next_ : Int))), (pin pv_225 (aLD K (List.map Cd.d (self.queue : List (List Int))))), (aDK K (dD (self.kept : (List (Int × (List Int)))))), (aD K (Cd.d (self.sent : Int))), (aLD K (List.map Cd.d (self.again : List (T3 Int Int Int)))), (aD K (Cd.d (self.silent : Int)))])), none] (xe_lc (xc_imp (xc_mapO 1 hys_227 (xi_ownW (xs := self.queue) (cv := Cd.d) (xe_fldV 4 (xe_nmV 0 rfl) (Own.slot 0 rfl) T_Sender.cl T_Sender.n_queue nd_Sender rfl rfl) (Own.kid ctnO (Own.slot 0 rfl) 4 rfl)) ⟨_, (Own.kid ctnO (Own.slot 0 rfl) 4 rfl)⟩ (Nat.le_of_ble_eq_true rfl) (el := fun y => (aD K (Cd.d (y : (List Int))))) (fun _ _ _ _ _ packet_226 => (xem_some (xe_frz (xe_list (xe_nm 1 rfl) rlD m_list))))) (aLD_map Cd.d _)) rfl nd (blkOk_by (N := ["self", "packet"]) (sc := defScope s_Sender_waiting) (by decide +kernel)) (fun _ _ _ _ _ => pg_name nd rfl (.inl rfl)))) 0 rfl (imp_pin (imp_obj (.cons imp_rfl (.cons imp_rfl (.cons imp_rfl (.cons imp_rfl (.cons (imp_pinned imp_rfl) (.cons imp_rfl (.cons imp_rfl (.cons imp_rfl (.cons imp_rfl .nil)))))))))))) (wk_k (wk_k (wk_n wk_0)))))))
def m_Sender_is_idle (self : M_Sender) : Option Bool :=
  (some ((decide ((((List.length self.queue : Nat) : Int) : Int) = 0)) && (decide ((((List.length self.kept : Nat) : Int) : Int) = 0))))
abbrev sp_Sender_is_idle (K : PySem.W.Frag) (cl_Sender : Addr) (cl_BearerError : Addr) (cl_NotValid : Addr) : Sp := SpM (fun x : M_Sender => [(o_Sender K cl_Sender cl_BearerError cl_NotValid x)]) (fun x => m_Sender_is_idle x) (fun x (r : Bool) => [some (o_Sender K cl_Sender cl_BearerError cl_NotValid x)]) (fun _ r => (aD K (Cd.d (r : Bool))))
abbrev s_Sender_is_idle : Stmt := inClass (topS 22) 16
theorem sc_Sender_is_idle : FnScope ["self"] ["self"] (defScope s_Sender_is_idle) := ⟨rfl, rfl, rfl, by decide +kernel, rfl, by decide +kernel, by decide +kernel⟩
set_option maxHeartbeats 4000000 in
theorem ok_Sender_is_idle {P : Program} {w : World} {K : PySem.W.Frag} {mg : Str → Option Value} {base : Heap} {f : Addr} {cl_Sender : Addr} {cl_BearerError : Addr} {cl_NotValid : Addr} {fd : FuncData} (F : Fun K "is_idle" "Sender.is_idle" s_Sender_is_idle f fd) (T_Sender : CF_Sender K cl_Sender) (X_BearerError : ExK K mg "BearerError" cl_BearerError) (E_BearerError : ExcC K cl_BearerError) (X_NotValid : ExK K mg "NotValid" cl_NotValid) (E_NotValid : ExcC K cl_NotValid) (xm_NotValid_BearerError : PySem.W.exmOne K (.ref cl_NotValid) (.ref cl_BearerError) = some true) (xk_NotValid_NotValid : PySem.W.kitOne K (.ref cl_NotValid) (.ref cl_NotValid) = some true) (m_len : mg "len" = none) : FnOk P w K mg base CX0 1 f fd ["self"] (sp_Sender_is_idle K cl_Sender cl_BearerError cl_NotValid) :=
  fn_ok (k := 0) [true] F sc_Sender_is_idle rfl (fun _ => rfl) (fun _ _ => rfl) fun x vs cdv A outer s H E hv hr => by
    match x, vs, hv with
    | self, [pa0], _ =>
      have nd := sc_Sender_is_idle.nd
      show XG _ _ [some (pin pa0 (o_Sender K cl_Sender cl_BearerError cl_NotValid self))] (m_Sender_is_idle self) (oR fun r : Bool => [some ((aD K (Cd.d (r : Bool)))), some (pin pa0 (o_Sender K cl_Sender cl_BearerError cl_NotValid self))])
      unfold m_Sender_is_idle
      exact (xg_st [some (pin pa0 (o_Sender K cl_Sender cl_BearerError cl_NotValid self))] rfl (xg_ret (A := (aD K (Cd.d (((decide ((((List.length self.queue : Nat) : Int) : Int) = 0)) && (decide ((((List.length self.kept : Nat) : Int) : Int) = 0))) : Bool)))) (xe_and (xe_pinC ctnO (Own.slot 0 rfl) 4 rfl fun pv_230 => (xe_weak (ρ1 := [some (pin pa0 (aObj cl_Sender ns_Sender [(aD K (Cd.d (self.bits : Int))), (aD K (Cd.d (self.window : Int))), (aD K (Cd.d (self.low : Int))), (aD K (Cd.d (self.next_ : Int))), (pin pv_230 (aLD K (List.map Cd.d (self.queue : List (List Int))))), (aDK K (dD (self.kept : (List (Int × (List Int)))))), (aD K (Cd.d (self.sent : Int))), (aLD K (List.map Cd.d (self.again : List (T3 Int Int Int)))), (aD K (Cd.d (self.silent : Int)))]))]) (B' := (pin pa0 (o_Sender K cl_Sender cl_BearerError cl_NotValid self))) (xe_stE [some (pin pa0 (aObj cl_Sender ns_Sender [(aD K (Cd.d (self.bits : Int))), (aD K (Cd.d (self.window : Int))), (aD K (Cd.d (self.low : Int))), (aD K (Cd.d (self.next_ : Int))), (pin pv_230 (aLD K (List.map Cd.d (self.queue : List (List Int))))), (aDK K (dD (self.kept : (List (Int × (List Int)))))), (aD K (Cd.d (self.sent : Int))), (aLD K (List.map Cd.d (self.again : List (T3 Int Int Int)))), (aD K (Cd.d (self.silent : Int)))]))] (xe_st0 [some (pin pa0 (aObj cl_Sender ns_Sender [(aD K (Cd.d (self.bits : Int))), (aD K (Cd.d (self.window : Int))), (aD K (Cd.d (self.low : Int))), (aD K (Cd.d (self.next_ : Int))), (pin pv_230 (aLD K (List.map Cd.d (self.queue : List (List Int))))), (aDK K (dD (self.kept : (List (Int × (List Int)))))), (aD K (Cd.d (self.sent : Int))), (aLD K (List.map Cd.d (self.again : List (T3 Int Int Int)))), (aD K (Cd.d (self.silent : Int)))]))] rfl (xe_k (xkc_eq (x := (((List.length self.queue : Nat) : Int) : Int)) (y := (0 : Int)) hr.units (xc_len (xs := self.queue) (xe_fldV 4 (xe_nmV 0 rfl) (Own.slot 0 rfl) T_Sender.cl T_Sender.n_queue nd_Sender rfl rfl) (Rlm.ls (rmW (Own.kid ctnO (Own.slot 0 rfl) 4 rfl))) m_len) xe_int rdD rdD)))) 0 rfl (imp_pin (imp_obj (.cons imp_rfl (.cons imp_rfl (.cons imp_rfl (.cons imp_rfl (.cons (imp_pinned imp_rfl) (.cons imp_rfl (.cons imp_rfl (.cons imp_rfl (.cons imp_rfl .nil))))))))))))) fun _ => (xe_one (xe_pinC ctnO (Own.slot 0 rfl) 5 rfl fun pv_231 => (xe_weak (ρ1 := [some (pin pa0 (aObj cl_Sender ns_Sender [(aD K (Cd.d (self.bits : Int))), (aD K (Cd.d (self.window : Int))), (aD K (Cd.d (self.low : Int))), (aD K (Cd.d (self.next_ : Int))), (aLD K (List.map Cd.d (self.queue : List (List Int)))), (pin pv_231 (aDK K (dD (self.kept : (List (Int × (List Int))))))), (aD K (Cd.d (self.sent : Int))), (aLD K (List.map Cd.d (self.again : List (T3 Int Int Int)))), (aD K (Cd.d (self.silent : Int)))]))]) (B' := (pin pa0 (o_Sender K cl_Sender cl_BearerError cl_NotValid self))) (xe_stE [some (pin pa0 (aObj cl_Sender ns_Sender [(aD K (Cd.d (self.bits : Int))), (aD K (Cd.d (self.window : Int))), (aD K (Cd.d (self.low : Int))), (aD K (Cd.d (self.next_ : Int))), (aLD K (List.map Cd.d (self.queue : List (List Int)))), (pin pv_231 (aDK K (dD (self.kept : (List (Int × (List Int))))))), (aD K (Cd.d (self.sent : Int))), (aLD K (List.map Cd.d (self.again : List (T3 Int Int Int)))), (aD K (Cd.d (self.silent : Int)))]))] (xe_st0 [some (pin pa0 (aObj cl_Sender ns_Sender [(aD K (Cd.d (self.bits : Int))), (aD K (Cd.d (self.window : Int))), (aD K (Cd.d (self.low : Int))), (aD K (Cd.d (self.next_ : Int))), (aLD K (List.map Cd.d (self.queue : List (List Int)))), (pin pv_231 (aDK K (dD (self.kept : (List (Int × (List Int))))))), (aD K (Cd.d (self.sent : Int))), (aLD K (List.map Cd.d (self.again : List (T3 Int Int Int)))), (aD K (Cd.d (self.silent : Int)))]))] rfl (xe_k (xkc_eq (x := (((List.length self.kept : Nat) : Int) : Int)) (y := (0 : Int)) hr.units (xe_dlen (kvs := self.kept) (xe_fldV 5 (xe_nmV 0 rfl) (Own.slot 0 rfl) T_Sender.cl T_Sender.n_kept nd_Sender rfl rfl) (Own.kid ctnO (Own.slot 0 rfl) 5 rfl) m_len) xe_int rdD rdD)))) 0 rfl (imp_pin (imp_obj (.cons imp_rfl (.cons imp_rfl (.cons imp_rfl (.cons imp_rfl (.cons imp_rfl (.cons (imp_pinned imp_rfl) (.cons imp_rfl (.cons imp_rfl (.cons imp_rfl .nil))))))))))))))) (wk_k (wk_k wk_0))))
def m_l_cell (l_script : (List Int)) (l_k : Int) : Option Int :=
  (if (decide (l_k < ((List.length l_script : Nat) : Int))) = true then
  (Option.bind (atI l_script l_k) fun x_232 =>
  (some x_232)) else
  (some 0))
abbrev sp_l_cell (K : PySem.W.Frag) (cl_Sender : Addr) (cl_BearerError : Addr) (cl_NotValid : Addr) : Sp := SpM (fun x : ((List Int) × Int) => [aR K (List.map Cd.d (x.1 : List Int)), (aD K (Cd.d (x.2 : Int)))]) (fun x => m_l_cell x.1 x.2) (fun x (r : Int) => [none, none]) (fun _ r => (aD K (Cd.d (r : Int))))
abbrev s_l_cell : Stmt := topS 24
theorem sc_l_cell : FnScope ["_law_script", "_law_k"] ["_law_script", "_law_k"] (defScope s_l_cell) := ⟨rfl, rfl, rfl, by decide +kernel, rfl, by decide +kernel, by decide +kernel⟩
set_option maxHeartbeats 4000000 in
theorem ok_l_cell {P : Program} {w : World} {K : PySem.W.Frag} {mg : Str → Option Value} {base : Heap} {f : Addr} {cl_Sender : Addr} {cl_BearerError : Addr} {cl_NotValid : Addr} {fd : FuncData} (F : Fun K "_law_cell" "_law_cell" s_l_cell f fd) (T_Sender : CF_Sender K cl_Sender) (X_BearerError : ExK K mg "BearerError" cl_BearerError) (E_BearerError : ExcC K cl_BearerError) (X_NotValid : ExK K mg "NotValid" cl_NotValid) (E_NotValid : ExcC K cl_NotValid) (xm_NotValid_BearerError : PySem.W.exmOne K (.ref cl_NotValid) (.ref cl_BearerError) = some true) (xk_NotValid_NotValid : PySem.W.kitOne K (.ref cl_NotValid) (.ref cl_NotValid) = some true) (m_int : mg "int" = none) (m_len : mg "len" = none) : FnOk P w K mg base CX0 1 f fd ["_law_script", "_law_k"] (sp_l_cell K cl_Sender cl_BearerError cl_NotValid) :=
  fn_ok (k := 0) [false, false] F sc_l_cell rfl (fun _ => rfl) (fun _ _ => rfl) fun x vs cdv A outer s H E hv hr => by
    match x, vs, hv with
    | (l_script, l_k), [pa0, pa1], _ =>
      have nd := sc_l_cell.nd
      show XG _ _ [some (aR K (List.map Cd.d (l_script : List Int))), some (aD K (Cd.d (l_k : Int)))] (m_l_cell l_script l_k) (oR fun r : Int => [some ((aD K (Cd.d (r : Int)))), none, none])
      unfold m_l_cell
      exact (xg_st [some (aR K (List.map Cd.d (l_script : List Int))), some (aD K (Cd.d (l_k : Int)))] rfl (xg_ifR (u := []) (xt_k (xk_lt (xe_nm 1 rfl) (xc_len (xs := l_script) (xe_nmR 0 rfl) rlR m_len))) (fun _ => (xg_st [some (aR K (List.map Cd.d (l_script : List Int))), some (aD K (Cd.d (l_k : Int)))] rfl (xg_bind fun x_232 hx_232 =>
  (xg_ret (A := (aD K (Cd.d (x_232 : Int)))) (xe_int1 (xc_ix (xs := l_script) (xe_nmR 0 rfl) (xe_nm 1 rfl) rlR hx_232) m_int) (wk_k (wk_n (wk_n wk_0))))))) (fun _ => (xg_st [some (aR K (List.map Cd.d (l_script : List Int))), some (aD K (Cd.d (l_k : Int)))] rfl (xg_ret (A := (aD K (Cd.d (0 : Int)))) xe_int (wk_k (wk_n (wk_n wk_0))))))))
def m_l_digits (l_cell_here : Int) (l_bases : (List Int)) : Option (List Int) :=
  (Option.bind (List.foldlM (fun (s_234 : ((List Int) × Int)) (l_base_235 : Int) =>
  (Option.bind (if (decide (1000000000000000000 ≤ l_cell_here)) = true then
  (Option.bind (modM s_234.2 l_base_235) fun r_262 =>
  (Option.bind (guardO (List.length s_234.1 < 1000000)) fun g_263 =>
  (Option.bind (divM s_234.2 l_base_235) fun q_264 =>
  (some ((s_234.1 ++ [r_262]), q_264))))) else
  (lett (((((s_234.2 * 48271) + (1009 * ((List.length s_234.1 : Nat) : Int))) + 12345) % 2147483647) : Int) fun l_rest_265 =>
  (Option.bind (mulM l_rest_265 l_rest_265) fun p_266 =>
  (lett ((p_266 % 2147483629) : Int) fun l_mixed_267 =>
  (Option.bind (modM (l_mixed_267 / 13) l_base_235) fun r_268 =>
  (Option.bind (guardO (List.length s_234.1 < 1000000)) fun g_269 =>
  (some ((s_234.1 ++ [r_268]), l_rest_265)))))))) fun s_261 =>
  (some (s_261.1, s_261.2)))) (([] : (List Int)), l_cell_here) l_bases) fun s_270 =>
  (some s_270.1))
abbrev sp_l_digits (K : PySem.W.Frag) (cl_Sender : Addr) (cl_BearerError : Addr) (cl_NotValid : Addr) : Sp := SpM (fun x : (Int × (List Int)) => [(aD K (Cd.d (x.1 : Int))), (aD K (Cd.d (x.2 : (List Int))))]) (fun x => m_l_digits x.1 x.2) (fun x (r : (List Int)) => [none, none]) (fun _ r => (aD K (Cd.d (r : (List Int)))))
abbrev s_l_digits : Stmt := topS 25
theorem sc_l_digits : FnScope ["_law_cell_here", "_law_bases", "_law_digits_here", "_law_rest", "_law_base", "_law_mixed"] ["_law_cell_here", "_law_bases"] (defScope s_l_digits) := ⟨rfl, rfl, rfl, by decide +kernel, rfl, by decide +kernel, by decide +kernel⟩
set_option maxHeartbeats 4000000 in
theorem ok_l_digits {P : Program} {w : World} {K : PySem.W.Frag} {mg : Str → Option Value} {base : Heap} {f : Addr} {cl_Sender : Addr} {cl_BearerError : Addr} {cl_NotValid : Addr} {fd : FuncData} (F : Fun K "_law_digits" "_law_digits" s_l_digits f fd) (T_Sender : CF_Sender K cl_Sender) (X_BearerError : ExK K mg "BearerError" cl_BearerError) (E_BearerError : ExcC K cl_BearerError) (X_NotValid : ExK K mg "NotValid" cl_NotValid) (E_NotValid : ExcC K cl_NotValid) (xm_NotValid_BearerError : PySem.W.exmOne K (.ref cl_NotValid) (.ref cl_BearerError) = some true) (xk_NotValid_NotValid : PySem.W.kitOne K (.ref cl_NotValid) (.ref cl_NotValid) = some true) (m_int : mg "int" = none) (m_len : mg "len" = none) : FnOk P w K mg base CX0 1 f fd ["_law_cell_here", "_law_bases"] (sp_l_digits K cl_Sender cl_BearerError cl_NotValid) :=
  fn_ok (k := 0) [false, false] F sc_l_digits rfl (fun _ => rfl) (fun _ _ => rfl) fun x vs cdv A outer s H E hv hr => by
    match x, vs, hv with
    | (l_cell_here, l_bases), [pa0, pa1], _ =>
      have nd := sc_l_digits.nd
      show XG _ _ [some (aD K (Cd.d (l_cell_here : Int))), some (aD K (Cd.d (l_bases : (List Int)))), none, none, none, none] (m_l_digits l_cell_here l_bases) (oR fun r : (List Int) => [some ((aD K (Cd.d (r : (List Int))))), none, none, none, none, none, none])
      unfold m_l_digits
      exact (xg_st [some (aD K (Cd.d (l_cell_here : Int))), some (aD K (Cd.d (l_bases : (List Int)))), none, none, none, none] rfl (xg_asgP 2 (xe_is (B := (aLD K (List.map Cd.d (([] : (List Int)) : List Int)))) (xe_lst xa_nil (Nat.le_of_ble_eq_true rfl)) rfl) fun pv_233 => (xg_st [some (aD K (Cd.d (l_cell_here : Int))), some (aD K (Cd.d (l_bases : (List Int)))), some (pin pv_233 (aLD K (List.map Cd.d (([] : (List Int)) : List Int)))), none, none, none] rfl (xg_asg 3 (A := aD K (Cd.d (l_cell_here : Int))) (xe_int1 (xe_nm 0 rfl) m_int) (xg_st [some (aD K (Cd.d (l_cell_here : Int))), some (aD K (Cd.d (l_bases : (List Int)))), some (pin pv_233 (aLD K (List.map Cd.d (([] : (List Int)) : List Int)))), some (aD K (Cd.d (l_cell_here : Int))), none, none] rfl (xg_for (N := (fun s_234 : ((List Int) × Int) => [some (aD K (Cd.d (l_cell_here : Int))), some (aD K (Cd.d (l_bases : (List Int)))), some (pin pv_233 (aLD K (List.map Cd.d (s_234.1 : List Int)))), some (aD K (Cd.d (s_234.2 : Int))), none, none])) PassesOwn.never rfl (xi_list (xs := l_bases) (cv := Cd.d) (xe_nm 1 rfl)) (wk_k (wk_k (wk_k (wk_k (wk_n (wk_n wk_0)))))) (fun _ => trivial) (fun _ _ => (xp_nm 4)) (fun l_base_235 s_234 => (xg_st [some (aD K (Cd.d (l_cell_here : Int))), some (aD K (Cd.d (l_bases : (List Int)))), some (pin pv_233 (aLD K (List.map Cd.d (s_234.1 : List Int)))), some (aD K (Cd.d (s_234.2 : Int))), some (aD K (Cd.d (l_base_235 : Int))), none] rfl (xg_if (N := (fun s_261 : ((List Int) × Int) => [some (aD K (Cd.d (l_cell_here : Int))), some (aD K (Cd.d (l_bases : (List Int)))), some (pin pv_233 (aLD K (List.map Cd.d (s_261.1 : List Int)))), some (aD K (Cd.d (s_261.2 : Int))), some (aD K (Cd.d (l_base_235 : Int))), none])) (xt_k (xk_ge (xe_nm 0 rfl) (xe_isI (xe_pow (by decide) xe_int xe_int) (by decide)))) (fun _ => (xg_st [some (aD K (Cd.d (l_cell_here : Int))), some (aD K (Cd.d (l_bases : (List Int)))), some (pin pv_233 (aLD K (List.map Cd.d (s_234.1 : List Int)))), some (aD K (Cd.d (s_234.2 : Int))), some (aD K (Cd.d (l_base_235 : Int))), none] rfl (xg_bind fun r_262 hr_262 =>
  (xg_bind fun g_263 hg_263 =>
  (xg_expr (xe_appendDW (cv := Cd.d) (xs := s_234.1) (x := r_262) (xe_nmV 2 rfl) (Own.slot 2 rfl) (xe_isI (xe_mod (modM_eq hr_262).1 (xe_int1 (xe_nm 3 rfl) m_int) (xe_nm 4 rfl)) (modM_eq hr_262).2) (Own.slot 2 rfl) (sz_lt (guardO_eq hg_263))) (xg_st [some (aD K (Cd.d (l_cell_here : Int))), some (aD K (Cd.d (l_bases : (List Int)))), some (pin pv_233 (aLD K (List.map Cd.d ((s_234.1 ++ [r_262]) : List Int)))), some (aD K (Cd.d (s_234.2 : Int))), some (aD K (Cd.d (l_base_235 : Int))), none] rfl (xg_bind fun q_264 hq_264 =>
  (xg_asg 3 (A := aD K (Cd.d (q_264 : Int))) (xe_isI (xe_div (divM_eq hq_264).1 (xe_nm 3 rfl) (xe_nm 4 rfl)) (divM_eq hq_264).2) (xg_nilS (wk_k (wk_k (wk_k (wk_k (wk_k (wk_n wk_0))))))))))))))) (fun _ => (xg_st [some (aD K (Cd.d (l_cell_here : Int))), some (aD K (Cd.d (l_bases : (List Int)))), some (pin pv_233 (aLD K (List.map Cd.d (s_234.1 : List Int)))), some (aD K (Cd.d (s_234.2 : Int))), some (aD K (Cd.d (l_base_235 : Int))), none] rfl (xg_lett fun l_rest_265 hl_rest_265 =>
  (xg_asg 3 (A := aD K (Cd.d (l_rest_265 : Int))) (xe_nv (v := (((((s_234.2 * 48271) + (1009 * ((List.length s_234.1 : Nat) : Int))) + 12345) % 2147483647) : Int)) (xe_mod (by decide) (xe_add (xe_add (xe_mul (mulR 48271) (xe_int1 (xe_nm 3 rfl) m_int) xe_int) (xe_mul (mulL 1009) xe_int (xc_len (xs := s_234.1) (xe_nmV 2 rfl) (Rlm.ls (rmW (Own.slot 2 rfl))) m_len))) xe_int) xe_int) hl_rest_265) (xg_st [some (aD K (Cd.d (l_cell_here : Int))), some (aD K (Cd.d (l_bases : (List Int)))), some (pin pv_233 (aLD K (List.map Cd.d (s_234.1 : List Int)))), some (aD K (Cd.d (l_rest_265 : Int))), some (aD K (Cd.d (l_base_235 : Int))), none] rfl (xg_bind fun p_266 hp_266 =>
  (xg_lett fun l_mixed_267 hl_mixed_267 =>
  (xg_asg 5 (A := aD K (Cd.d (l_mixed_267 : Int))) (xe_nv (v := ((p_266 % 2147483629) : Int)) (xe_mod (by decide) (xe_isI (xe_mul (mulM_eq hp_266).1 (xe_int1 (xe_nm 3 rfl) m_int) (xe_int1 (xe_nm 3 rfl) m_int)) (mulM_eq hp_266).2) xe_int) hl_mixed_267) (xg_st [some (aD K (Cd.d (l_cell_here : Int))), some (aD K (Cd.d (l_bases : (List Int)))), some (pin pv_233 (aLD K (List.map Cd.d (s_234.1 : List Int)))), some (aD K (Cd.d (l_rest_265 : Int))), some (aD K (Cd.d (l_base_235 : Int))), some (aD K (Cd.d (l_mixed_267 : Int)))] rfl (xg_bind fun r_268 hr_268 =>
  (xg_bind fun g_269 hg_269 =>
  (xg_expr (xe_appendDW (cv := Cd.d) (xs := s_234.1) (x := r_268) (xe_nmV 2 rfl) (Own.slot 2 rfl) (xe_isI (xe_mod (modM_eq hr_268).1 (xe_div (by decide) (xe_int1 (xe_nm 5 rfl) m_int) xe_int) (xe_nm 4 rfl)) (modM_eq hr_268).2) (Own.slot 2 rfl) (sz_lt (guardO_eq hg_269))) (xg_nilS (wk_k (wk_k (wk_k (wk_k (wk_k (wk_n wk_0))))))))))))))))))) (fun s_261 => (xg_nilS (wk_k (wk_k (wk_k (wk_k (wk_n (wk_n wk_0))))))))))) (fun s_270 => (xg_st [some (aD K (Cd.d (l_cell_here : Int))), some (aD K (Cd.d (l_bases : (List Int)))), some (pin pv_233 (aLD K (List.map Cd.d (s_270.1 : List Int)))), some (aD K (Cd.d (s_270.2 : Int))), none, none] rfl (xg_freeze 2 rfl (xg_st [some (aD K (Cd.d (l_cell_here : Int))), some (aD K (Cd.d (l_bases : (List Int)))), some (aD K (Cd.d (s_270.1 : (List Int)))), some (aD K (Cd.d (s_270.2 : Int))), none, none] rfl (xg_ret (A := (aD K (Cd.d (s_270.1 : (List Int))))) (xe_nm 2 rfl) (wk_k (wk_n (wk_n (wk_n (wk_n (wk_n (wk_n wk_0))))))))))))))))))
def m_l_many (l_script : (List Int)) (l_few : Int) (l_many_here : Int) : Option Int :=
  (Option.bind ((if (decide (0 < ((List.length l_script : Nat) : Int))) = true then (Option.bind (atI l_script 0) fun x_272 => (some (decide ((((x_272 / 1009) % 5) : Int) = 1)))) else some false)) fun c_273 =>
  (if c_273 = true then
  (some l_many_here) else
  (some l_few)))
abbrev sp_l_many (K : PySem.W.Frag) (cl_Sender : Addr) (cl_BearerError : Addr) (cl_NotValid : Addr) : Sp := SpM (fun x : ((List Int) × Int × Int) => [aR K (List.map Cd.d (x.1 : List Int)), (aD K (Cd.d (x.2.1 : Int))), (aD K (Cd.d (x.2.2 : Int)))]) (fun x => m_l_many x.1 x.2.1 x.2.2) (fun x (r : Int) => [none, none, none]) (fun _ r => (aD K (Cd.d (r : Int))))
abbrev s_l_many : Stmt := topS 26
theorem sc_l_many : FnScope ["_law_script", "_law_few", "_law_many_here"] ["_law_script", "_law_few", "_law_many_here"] (defScope s_l_many) := ⟨rfl, rfl, rfl, by decide +kernel, rfl, by decide +kernel, by decide +kernel⟩
set_option maxHeartbeats 4000000 in
theorem ok_l_many {P : Program} {w : World} {K : PySem.W.Frag} {mg : Str → Option Value} {base : Heap} {f : Addr} {cl_Sender : Addr} {cl_BearerError : Addr} {cl_NotValid : Addr} {fd : FuncData} (F : Fun K "_law_many" "_law_many" s_l_many f fd) (T_Sender : CF_Sender K cl_Sender) (X_BearerError : ExK K mg "BearerError" cl_BearerError) (E_BearerError : ExcC K cl_BearerError) (X_NotValid : ExK K mg "NotValid" cl_NotValid) (E_NotValid : ExcC K cl_NotValid) (xm_NotValid_BearerError : PySem.W.exmOne K (.ref cl_NotValid) (.ref cl_BearerError) = some true) (xk_NotValid_NotValid : PySem.W.kitOne K (.ref cl_NotValid) (.ref cl_NotValid) = some true) (m_int : mg "int" = none) (m_len : mg "len" = none) : FnOk P w K mg base CX0 1 f fd ["_law_script", "_law_few", "_law_many_here"] (sp_l_many K cl_Sender cl_BearerError cl_NotValid) :=
  fn_ok (k := 0) [false, false, false] F sc_l_many rfl (fun _ => rfl) (fun _ _ => rfl) fun x vs cdv A outer s H E hv hr => by
    match x, vs, hv with
    | (l_script, l_few, l_many_here), [pa0, pa1, pa2], _ =>
      have nd := sc_l_many.nd
      show XG _ _ [some (aR K (List.map Cd.d (l_script : List Int))), some (aD K (Cd.d (l_few : Int))), some (aD K (Cd.d (l_many_here : Int)))] (m_l_many l_script l_few l_many_here) (oR fun r : Int => [some ((aD K (Cd.d (r : Int)))), none, none, none])
      unfold m_l_many
      exact (xg_st [some (aR K (List.map Cd.d (l_script : List Int))), some (aD K (Cd.d (l_few : Int))), some (aD K (Cd.d (l_many_here : Int)))] rfl (xg_bind fun c_273 hc_273 =>
  (xg_ifR (u := []) (xt_w (xw_andM (xt_k (xk_gt (xc_len (xs := l_script) (xe_nmR 0 rfl) rlR m_len) xe_int)) (xwm_and1 (xtm_bind fun x_272 hx_272 => (xtm_some (xt_k (xkc_eq (x := (((x_272 / 1009) % 5) : Int)) (y := (1 : Int)) hr.units (xe_mod (by decide) (xe_div (by decide) (xe_int1 (xc_ix (xs := l_script) (xe_nmR 0 rfl) xe_int rlR hx_272) m_int) xe_int) xe_int) xe_int rdD rdD))))) hc_273)) (fun _ => (xg_st [some (aR K (List.map Cd.d (l_script : List Int))), some (aD K (Cd.d (l_few : Int))), some (aD K (Cd.d (l_many_here : Int)))] rfl (xg_ret (A := (aD K (Cd.d (l_many_here : Int)))) (xe_nm 2 rfl) (wk_k (wk_n (wk_n (wk_n wk_0))))))) (fun _ => (xg_st [some (aR K (List.map Cd.d (l_script : List Int))), some (aD K (Cd.d (l_few : Int))), some (aD K (Cd.d (l_many_here : Int)))] rfl (xg_ret (A := (aD K (Cd.d (l_few : Int)))) (xe_nm 1 rfl) (wk_k (wk_n (wk_n (wk_n wk_0))))))))))
def m_l_both (l_one : M_Sender) (l_other : M_Sender) (l_digits_here : (List Int)) : Option (Bool × M_Sender × M_Sender) :=
  (Option.bind (atI l_digits_here 0) fun x_274 =>
  (if (decide (x_274 < 2)) = true then
  (Option.bind (atI l_digits_here 2) fun x_275 =>
  (Option.bind (guardO (-(2 ^ 62) ≤ (1 + (x_275 % 30)) ∧ (1 + (x_275 % 30)) < 2 ^ 62)) fun g_276 =>
  (Option.bind (mapO (fun l_k_277 : Int => (Option.bind (atI l_digits_here 1) fun x_279 => (some ((x_279 + (7 * l_k_277)) % 256)))) (rangeI 0 (Int.toNat (1 + (x_275 % 30))))) fun ys_280 =>
  (Option.bind (m_Sender_put l_one ys_280) fun v_281 =>
  (Option.bind (m_Sender_put l_other ys_280) fun v_282 =>
  (some (true, v_281, v_282))))))) else
  (Option.bind (atI l_digits_here 0) fun x_283 =>
  (if (decide (x_283 < 6)) = true then
  (Option.bind (atI l_digits_here 2) fun x_284 =>
  (Option.bind (m_Sender_has_piece l_one x_284) fun v_285 =>
  (Option.bind (atI l_digits_here 3) fun x_286 =>
  (Option.bind (m_Sender_has_piece l_one x_286) fun v_287 =>
  (Option.bind (m_Sender_send l_one x_284) fun v_288 =>
  (Option.bind ((Option.bind (some (true, l_other)) fun r_298 => (if r_298.1 = true then (Option.bind (some ((decide ((v_285 : Bool) = (!(Option.isNone v_288.1)))), r_298.2)) fun r_296 => (if r_296.1 = true then (Option.bind (m_Sender_send r_296.2 x_284) fun v_295 => (some ((decide ((v_295.1 : (Option (List Int))) = v_288.1)), v_295.2))) else some (false, r_296.2))) else some (false, r_298.2)))) fun c_300 =>
  (some (c_300.1, v_288.2, c_300.2)))))))) else
  (Option.bind (atI l_digits_here 0) fun x_301 =>
  (if (decide ((x_301 : Int) = 6)) = true then
  (Option.bind (atI l_digits_here 1) fun x_302 =>
  (Option.bind (atI l_digits_here 3) fun x_303 =>
  (Option.bind (atI l_digits_here 4) fun x_304 =>
  (lett ((cutL [(T3.mk (x_302 % 8) (x_303 % 9) ((x_303 % 9) + x_304))] none (some (x_304 % 2))) : (List (T3 Int Int Int))) fun l_missing_305 =>
  (Option.bind (atI l_digits_here 5) fun x_306 =>
  (lett ((x_306 % 8) : Int) fun l_upto_307 =>
  (Option.bind (m_Sender_take_status l_one l_upto_307 l_missing_305) fun v_308 =>
  (Option.bind (m_Sender_take_status l_other l_upto_307 l_missing_305) fun v_309 =>
  (some ((decide ((v_308.1 : (Option (List Int))) = v_309.1)), v_308.2, v_309.2)))))))))) else
  (Option.bind (m_Sender_tick l_one) fun v_310 =>
  (Option.bind (m_Sender_tick l_other) fun v_311 =>
  (some (true, v_310, v_311))))))))))
abbrev sp_l_both (K : PySem.W.Frag) (cl_Sender : Addr) (cl_BearerError : Addr) (cl_NotValid : Addr) : Sp := SpM (fun x : (M_Sender × M_Sender × (List Int)) => [(o_Sender K cl_Sender cl_BearerError cl_NotValid x.1), (o_Sender K cl_Sender cl_BearerError cl_NotValid x.2.1), (aD K (Cd.d (x.2.2 : (List Int))))]) (fun x => m_l_both x.1 x.2.1 x.2.2) (fun x (r : (Bool × M_Sender × M_Sender)) => [some (o_Sender K cl_Sender cl_BearerError cl_NotValid r.2.1), some (o_Sender K cl_Sender cl_BearerError cl_NotValid r.2.2), none]) (fun _ r => (aD K (Cd.d (r.1 : Bool))))
abbrev s_l_both : Stmt := topS 27
theorem sc_l_both : FnScope ["_law_one", "_law_other", "_law_digits_here", "_law_packet", "_law_room", "_law_told", "_law_piece", "_law_missing", "_law_upto", "_law_k"] ["_law_one", "_law_other", "_law_digits_here"] (defScope s_l_both) := ⟨rfl, rfl, rfl, by decide +kernel, rfl, by decide +kernel, by decide +kernel⟩
set_option maxHeartbeats 4000000 in
theorem ok_l_both {P : Program} {w : World} {K : PySem.W.Frag} {mg : Str → Option Value} {base : Heap} {f : Addr} {cl_Sender : Addr} {cl_BearerError : Addr} {cl_NotValid : Addr} {fd : FuncData} (F : Fun K "_law_both" "_law_both" s_l_both f fd) (T_Sender : CF_Sender K cl_Sender) (X_BearerError : ExK K mg "BearerError" cl_BearerError) (E_BearerError : ExcC K cl_BearerError) (X_NotValid : ExK K mg "NotValid" cl_NotValid) (E_NotValid : ExcC K cl_NotValid) (xm_NotValid_BearerError : PySem.W.exmOne K (.ref cl_NotValid) (.ref cl_BearerError) = some true) (xk_NotValid_NotValid : PySem.W.kitOne K (.ref cl_NotValid) (.ref cl_NotValid) = some true) (m_bool : mg "bool" = none) (m_isinstance : mg "isinstance" = none) (m_list : mg "list" = none) (m_range : mg "range" = none) (c_Sender_has_piece : CalM P w K mg base 7 cl_Sender "has_piece" (sp_Sender_has_piece K cl_Sender cl_BearerError cl_NotValid)) (c_Sender_put : CalM P w K mg base 2 cl_Sender "put" (sp_Sender_put K cl_Sender cl_BearerError cl_NotValid)) (c_Sender_send : CalM P w K mg base 7 cl_Sender "send" (sp_Sender_send K cl_Sender cl_BearerError cl_NotValid)) (c_Sender_take_status : CalM P w K mg base 2 cl_Sender "take_status" (sp_Sender_take_status K cl_Sender cl_BearerError cl_NotValid)) (c_Sender_tick : CalM P w K mg base 3 cl_Sender "tick" (sp_Sender_tick K cl_Sender cl_BearerError cl_NotValid)) : FnOk P w K mg base CX0 8 f fd ["_law_one", "_law_other", "_law_digits_here"] (sp_l_both K cl_Sender cl_BearerError cl_NotValid) :=
  fn_ok (k := 7) [true, true, false] F sc_l_both rfl (fun _ => rfl) (fun _ _ => rfl) fun x vs cdv A outer s H E hv hr => by
    match x, vs, hv with
    | (l_one, l_other, l_digits_here), [pa0, pa1, pa2], _ =>
      have nd := sc_l_both.nd
      show XG _ _ [some (pin pa0 (o_Sender K cl_Sender cl_BearerError cl_NotValid l_one)), some (pin pa1 (o_Sender K cl_Sender cl_BearerError cl_NotValid l_other)), some (aD K (Cd.d (l_digits_here : (List Int)))), none, none, none, none, none, none, none] (m_l_both l_one l_other l_digits_here) (oR fun r : (Bool × M_Sender × M_Sender) => [some ((aD K (Cd.d (r.1 : Bool)))), some (pin pa0 (o_Sender K cl_Sender cl_BearerError cl_NotValid r.2.1)), some (pin pa1 (o_Sender K cl_Sender cl_BearerError cl_NotValid r.2.2)), none, none, none, none, none, none, none, none])
      unfold m_l_both
      exact (xg_st [some (pin pa0 (o_Sender K cl_Sender cl_BearerError cl_NotValid l_one)), some (pin pa1 (o_Sender K cl_Sender cl_BearerError cl_NotValid l_other)), some (aD K (Cd.d (l_digits_here : (List Int)))), none, none, none, none, none, none, none] rfl (xg_bind fun x_274 hx_274 =>
  (xg_ifR (u := []) (xt_k (xk_lt (xc_ix (xs := l_digits_here) (xe_nm 2 rfl) xe_int rlD hx_274) xe_int)) (fun _ => (xg_st [some (pin pa0 (o_Sender K cl_Sender cl_BearerError cl_NotValid l_one)), some (pin pa1 (o_Sender K cl_Sender cl_BearerError cl_NotValid l_other)), some (aD K (Cd.d (l_digits_here : (List Int)))), none, none, none, none, none, none, none] rfl (xg_bind fun x_275 hx_275 =>
  (xg_bind fun g_276 hg_276 =>
  (xg_bind fun ys_280 hys_280 =>
  (xg_asgLc (j := 3) (xc_frz (xc_imp (xc_mapO 9 hys_280 (xi_range1 (by exact rfl) m_range (xe_add xe_int (xe_mod (by decide) (xc_ix (xs := l_digits_here) (xe_nm 2 rfl) xe_int rlD hx_275) xe_int)) (guardO_eq hg_276)) trivial (Nat.le_of_ble_eq_true rfl) (el := fun y => (aD K (Cd.d (y : Int)))) (fun _ _ _ _ _ l_k_277 => (xem_bind fun x_279 hx_279 => (xem_some (xe_mod (by decide) (xe_add (xc_ix (xs := l_digits_here) (xe_nm 2 rfl) xe_int rlD hx_279) (xe_mul (mulL 7) xe_int (xe_nm 9 rfl))) xe_int))))) (aLD_map Cd.d _))) rfl rfl (sw_true rfl rfl rfl (by decide +kernel)) (xg_st [some (pin pa0 (o_Sender K cl_Sender cl_BearerError cl_NotValid l_one)), some (pin pa1 (o_Sender K cl_Sender cl_BearerError cl_NotValid l_other)), some (aD K (Cd.d (l_digits_here : (List Int)))), some (aD K (Cd.d (ys_280 : (List Int)))), none, none, none, none, none, none] rfl (xg_bind fun v_281 hv_281 =>
  (xg_expr (xe_methX (xx := (l_one, ys_280)) c_Sender_put T_Sender.cl nm_Sender_put (hr.mono (by decide)) hv_281 (xe_nmV 0 rfl) (Own.slot 0 rfl) (xx_of (xa_cons (xe_frz (xe_list (xe_nm 3 rfl) rlD m_list)) xa_nil)) (Own.slot 0 rfl) rfl rfl rfl rfl (Fill.cons 0 (List.Mem.head _) rfl (Own.slot 0 rfl) Fill.nil)) (xg_st [some (pin pa0 (o_Sender K cl_Sender cl_BearerError cl_NotValid v_281)), some (pin pa1 (o_Sender K cl_Sender cl_BearerError cl_NotValid l_other)), some (aD K (Cd.d (l_digits_here : (List Int)))), some (aD K (Cd.d (ys_280 : (List Int)))), none, none, none, none, none, none] rfl (xg_bind fun v_282 hv_282 =>
  (xg_expr (xe_methX (xx := (l_other, ys_280)) c_Sender_put T_Sender.cl nm_Sender_put (hr.mono (by decide)) hv_282 (xe_nmV 1 rfl) (Own.slot 1 rfl) (xx_of (xa_cons (xe_frz (xe_list (xe_nm 3 rfl) rlD m_list)) xa_nil)) (Own.slot 1 rfl) rfl rfl rfl rfl (Fill.cons 0 (List.Mem.head _) rfl (Own.slot 1 rfl) Fill.nil)) (xg_st [some (pin pa0 (o_Sender K cl_Sender cl_BearerError cl_NotValid v_281)), some (pin pa1 (o_Sender K cl_Sender cl_BearerError cl_NotValid v_282)), some (aD K (Cd.d (l_digits_here : (List Int)))), some (aD K (Cd.d (ys_280 : (List Int)))), none, none, none, none, none, none] rfl (xg_ret (A := (aD K (Cd.d (true : Bool)))) xe_bl (wk_k (wk_k (wk_k (wk_n (wk_n (wk_n (wk_n (wk_n (wk_n (wk_n (wk_n wk_0))))))))))))))))))) (Nat.le_of_ble_eq_true rfl) rfl nd (blkOk_by (N := ["_law_one", "_law_other", "_law_digits_here", "_law_packet", "_law_room", "_law_told", "_law_piece", "_law_missing", "_law_upto", "_law_k"]) (sc := defScope s_l_both) (by decide +kernel)) (fun _ _ _ _ _ => pg_name nd rfl (.inl rfl)))))))) (fun _ => (xg_st [some (pin pa0 (o_Sender K cl_Sender cl_BearerError cl_NotValid l_one)), some (pin pa1 (o_Sender K cl_Sender cl_BearerError cl_NotValid l_other)), some (aD K (Cd.d (l_digits_here : (List Int)))), none, none, none, none, none, none, none] rfl (xg_bind fun x_283 hx_283 =>
  (xg_ifR (u := []) (xt_k (xk_lt (xc_ix (xs := l_digits_here) (xe_nm 2 rfl) xe_int rlD hx_283) xe_int)) (fun _ => (xg_st [some (pin pa0 (o_Sender K cl_Sender cl_BearerError cl_NotValid l_one)), some (pin pa1 (o_Sender K cl_Sender cl_BearerError cl_NotValid l_other)), some (aD K (Cd.d (l_digits_here : (List Int)))), none, none, none, none, none, none, none] rfl (xg_bind fun x_284 hx_284 =>
  (xg_asg 4 (A := aD K (Cd.d (x_284 : Int))) (xc_ix (xs := l_digits_here) (xe_nm 2 rfl) xe_int rlD hx_284) (xg_st [some (pin pa0 (o_Sender K cl_Sender cl_BearerError cl_NotValid l_one)), some (pin pa1 (o_Sender K cl_Sender cl_BearerError cl_NotValid l_other)), some (aD K (Cd.d (l_digits_here : (List Int)))), none, some (aD K (Cd.d (x_284 : Int))), none, none, none, none, none] rfl (xg_bind fun v_285 hv_285 =>
  (xg_asg 5 (A := aD K (Cd.d (v_285 : Bool))) (xe_methX (xx := (l_one, x_284)) c_Sender_has_piece T_Sender.cl nm_Sender_has_piece (hr.mono (by decide)) hv_285 (xe_nmV 0 rfl) (Own.slot 0 rfl) (xx_of (xa_cons (xe_nm 4 rfl) xa_nil)) (Own.slot 0 rfl) rfl rfl rfl rfl (Fill.cons 0 (List.Mem.head _) rfl (Own.slot 0 rfl) Fill.nil)) (xg_st [some (pin pa0 (o_Sender K cl_Sender cl_BearerError cl_NotValid l_one)), some (pin pa1 (o_Sender K cl_Sender cl_BearerError cl_NotValid l_other)), some (aD K (Cd.d (l_digits_here : (List Int)))), none, some (aD K (Cd.d (x_284 : Int))), some (aD K (Cd.d (v_285 : Bool))), none, none, none, none] rfl (xg_bind fun x_286 hx_286 =>
  (xg_bind fun v_287 hv_287 =>
  (xg_expr (xe_methX (xx := (l_one, x_286)) c_Sender_has_piece T_Sender.cl nm_Sender_has_piece (hr.mono (by decide)) hv_287 (xe_nmV 0 rfl) (Own.slot 0 rfl) (xx_of (xa_cons (xc_ix (xs := l_digits_here) (xe_nm 2 rfl) xe_int rlD hx_286) xa_nil)) (Own.slot 0 rfl) rfl rfl rfl rfl (Fill.cons 0 (List.Mem.head _) rfl (Own.slot 0 rfl) Fill.nil)) (xg_st [some (pin pa0 (o_Sender K cl_Sender cl_BearerError cl_NotValid l_one)), some (pin pa1 (o_Sender K cl_Sender cl_BearerError cl_NotValid l_other)), some (aD K (Cd.d (l_digits_here : (List Int)))), none, some (aD K (Cd.d (x_284 : Int))), some (aD K (Cd.d (v_285 : Bool))), none, none, none, none] rfl (xg_bind fun v_288 hv_288 =>
  (xg_asg 6 (A := aD K (Cd.d (v_288.1 : (Option (List Int))))) (xe_methX (xx := (l_one, x_284)) c_Sender_send T_Sender.cl nm_Sender_send (hr.mono (by decide)) hv_288 (xe_nmV 0 rfl) (Own.slot 0 rfl) (xx_of (xa_cons (xe_nm 4 rfl) xa_nil)) (Own.slot 0 rfl) rfl rfl rfl rfl (Fill.cons 0 (List.Mem.head _) rfl (Own.slot 0 rfl) Fill.nil)) (xg_st [some (pin pa0 (o_Sender K cl_Sender cl_BearerError cl_NotValid v_288.2)), some (pin pa1 (o_Sender K cl_Sender cl_BearerError cl_NotValid l_other)), some (aD K (Cd.d (l_digits_here : (List Int)))), none, some (aD K (Cd.d (x_284 : Int))), some (aD K (Cd.d (v_285 : Bool))), some (aD K (Cd.d (v_288.1 : (Option (List Int))))), none, none, none] rfl (xg_bind fun c_300 hc_300 =>
  (xg_ret (A := (aD K (Cd.d (c_300.1 : Bool)))) (xe_bs (N := (fun s_291 : M_Sender => [some (pin pa0 (o_Sender K cl_Sender cl_BearerError cl_NotValid v_288.2)), some (pin pa1 (o_Sender K cl_Sender cl_BearerError cl_NotValid s_291)), some (aD K (Cd.d (l_digits_here : (List Int)))), none, some (aD K (Cd.d (x_284 : Int))), some (aD K (Cd.d (v_285 : Bool))), some (aD K (Cd.d (v_288.1 : (Option (List Int))))), none, none, none])) (xbs_and (f := (fun s_299 : M_Sender => (Option.bind (some ((decide ((v_285 : Bool) = (!(Option.isNone v_288.1)))), s_299)) fun r_296 => (if r_296.1 = true then (Option.bind (m_Sender_send r_296.2 x_284) fun v_295 => (some ((decide ((v_295.1 : (Option (List Int))) = v_288.1)), v_295.2))) else some (false, r_296.2))))) (xbs_some (xe_isi (T := "bool") (xe_nm 5 rfl) (xe_ty (ty := "bool") m_bool (by decide +kernel)) rty_data (by decide +kernel) m_isinstance) rfl) (fun s_299 => (xbs_and (f := (fun s_297 : M_Sender => (Option.bind (m_Sender_send s_297 x_284) fun v_295 => (some ((decide ((v_295.1 : (Option (List Int))) = v_288.1)), v_295.2))))) (xbs_some (xe_k (xkc_eq (x := (v_285 : Bool)) (y := ((!(Option.isNone v_288.1)) : Bool)) hr.units (xe_nm 5 rfl) (xe_k (xk_notNone (xe_nm 6 rfl) (isN_opt v_288.1))) rdD rdD)) rfl) (fun s_297 => (xbs_and1 (xbs_bind fun v_295 hv_295 => (xbs_some (xe_k (xkc_eq (x := (v_295.1 : (Option (List Int)))) (y := (v_288.1 : (Option (List Int)))) hr.units (xe_methX (xx := (s_297, x_284)) c_Sender_send T_Sender.cl nm_Sender_send (hr.mono (by decide)) hv_295 (xe_nmV 1 rfl) (Own.slot 1 rfl) (xx_of (xa_cons (xe_nm 4 rfl) xa_nil)) (Own.slot 1 rfl) rfl rfl rfl rfl (Fill.cons 0 (List.Mem.head _) rfl (Own.slot 1 rfl) Fill.nil)) (xe_nm 6 rfl) rdD rdD)) rfl))))))) hc_300) (wk_k (wk_k (wk_k (wk_n (wk_n (wk_n (wk_n (wk_n (wk_n (wk_n (wk_n wk_0)))))))))))))))))))))))))))) (fun _ => (xg_st [some (pin pa0 (o_Sender K cl_Sender cl_BearerError cl_NotValid l_one)), some (pin pa1 (o_Sender K cl_Sender cl_BearerError cl_NotValid l_other)), some (aD K (Cd.d (l_digits_here : (List Int)))), none, none, none, none, none, none, none] rfl (xg_bind fun x_301 hx_301 =>
  (xg_ifR (u := []) (xt_k (xkc_eq (x := (x_301 : Int)) (y := (6 : Int)) hr.units (xc_ix (xs := l_digits_here) (xe_nm 2 rfl) xe_int rlD hx_301) xe_int rdD rdD)) (fun _ => (xg_st [some (pin pa0 (o_Sender K cl_Sender cl_BearerError cl_NotValid l_one)), some (pin pa1 (o_Sender K cl_Sender cl_BearerError cl_NotValid l_other)), some (aD K (Cd.d (l_digits_here : (List Int)))), none, none, none, none, none, none, none] rfl (xg_bind fun x_302 hx_302 =>
  (xg_bind fun x_303 hx_303 =>
  (xg_bind fun x_304 hx_304 =>
  (xg_lett fun l_missing_305 hl_missing_305 =>
  (xg_asg 7 (A := aD K (Cd.d (l_missing_305 : (List (T3 Int Int Int))))) (xe_nv (v := ((cutL [(T3.mk (x_302 % 8) (x_303 % 9) ((x_303 % 9) + x_304))] none (some (x_304 % 2))) : (List (T3 Int Int Int)))) (xe_frz (xc_slice (xs := [(T3.mk (x_302 % 8) (x_303 % 9) ((x_303 % 9) + x_304))]) (i := none) (j := (some (x_304 % 2))) (xe_lstD (xs := ([(T3.mk (x_302 % 8) (x_303 % 9) ((x_303 % 9) + x_304))] : List (T3 Int Int Int))) (xa_cons (xe_tup (ds := [Cd.d ((x_302 % 8) : Int), Cd.d ((x_303 % 9) : Int), Cd.d (((x_303 % 9) + x_304) : Int)]) (xa_cons (xe_mod (by decide) (xc_ix (xs := l_digits_here) (xe_nm 2 rfl) xe_int rlD hx_302) xe_int) (xa_cons (xe_mod (by decide) (xc_ix (xs := l_digits_here) (xe_nm 2 rfl) xe_int rlD hx_303) xe_int) (xa_cons (xe_add (xe_mod (by decide) (xc_ix (xs := l_digits_here) (xe_nm 2 rfl) xe_int rlD hx_303) xe_int) (xc_ix (xs := l_digits_here) (xe_nm 2 rfl) xe_int rlD hx_304)) xa_nil))) (Nat.le_of_ble_eq_true rfl)) xa_nil) (Nat.le_of_ble_eq_true rfl)) xo_none (xo_some (xe_mod (by decide) (xc_ix (xs := l_digits_here) (xe_nm 2 rfl) xe_int rlD hx_304) xe_int)) (Rlm.ls rmL))) hl_missing_305) (xg_st [some (pin pa0 (o_Sender K cl_Sender cl_BearerError cl_NotValid l_one)), some (pin pa1 (o_Sender K cl_Sender cl_BearerError cl_NotValid l_other)), some (aD K (Cd.d (l_digits_here : (List Int)))), none, none, none, none, some (aD K (Cd.d (l_missing_305 : (List (T3 Int Int Int))))), none, none] rfl (xg_bind fun x_306 hx_306 =>
  (xg_lett fun l_upto_307 hl_upto_307 =>
  (xg_asg 8 (A := aD K (Cd.d (l_upto_307 : Int))) (xe_nv (v := ((x_306 % 8) : Int)) (xe_mod (by decide) (xc_ix (xs := l_digits_here) (xe_nm 2 rfl) xe_int rlD hx_306) xe_int) hl_upto_307) (xg_st [some (pin pa0 (o_Sender K cl_Sender cl_BearerError cl_NotValid l_one)), some (pin pa1 (o_Sender K cl_Sender cl_BearerError cl_NotValid l_other)), some (aD K (Cd.d (l_digits_here : (List Int)))), none, none, none, none, some (aD K (Cd.d (l_missing_305 : (List (T3 Int Int Int))))), some (aD K (Cd.d (l_upto_307 : Int))), none] rfl (xg_bind fun v_308 hv_308 =>
  (xg_bind fun v_309 hv_309 =>
  (xg_ret (A := (aD K (Cd.d ((decide ((v_308.1 : (Option (List Int))) = v_309.1)) : Bool)))) (xe_k (xkc_eq (x := (v_308.1 : (Option (List Int)))) (y := (v_309.1 : (Option (List Int)))) hr.units (xe_methX (xx := (l_one, l_upto_307, l_missing_305)) c_Sender_take_status T_Sender.cl nm_Sender_take_status (hr.mono (by decide)) hv_308 (xe_nmV 0 rfl) (Own.slot 0 rfl) (xx_of (xa_cons (xe_nm 8 rfl) (xa_cons (xe_frz (xe_list (xe_nm 7 rfl) rlD m_list)) xa_nil))) (Own.slot 0 rfl) rfl rfl rfl rfl (Fill.cons 0 (List.Mem.head _) rfl (Own.slot 0 rfl) Fill.nil)) (xe_methX (xx := (l_other, l_upto_307, l_missing_305)) c_Sender_take_status T_Sender.cl nm_Sender_take_status (hr.mono (by decide)) hv_309 (xe_nmV 1 rfl) (Own.slot 1 rfl) (xx_of (xa_cons (xe_nm 8 rfl) (xa_cons (xe_frz (xe_list (xe_nm 7 rfl) rlD m_list)) xa_nil))) (Own.slot 1 rfl) rfl rfl rfl rfl (Fill.cons 0 (List.Mem.head _) rfl (Own.slot 1 rfl) Fill.nil)) rdD rdD)) (wk_k (wk_k (wk_k (wk_n (wk_n (wk_n (wk_n (wk_n (wk_n (wk_n (wk_n wk_0)))))))))))))))))))))))))) (fun _ => (xg_st [some (pin pa0 (o_Sender K cl_Sender cl_BearerError cl_NotValid l_one)), some (pin pa1 (o_Sender K cl_Sender cl_BearerError cl_NotValid l_other)), some (aD K (Cd.d (l_digits_here : (List Int)))), none, none, none, none, none, none, none] rfl (xg_bind fun v_310 hv_310 =>
  (xg_expr (xe_methX0 (xx := l_one) c_Sender_tick T_Sender.cl nm_Sender_tick (hr.mono (by decide)) hv_310 (xe_nmV 0 rfl) (Own.slot 0 rfl) (Own.slot 0 rfl) rfl rfl rfl (Fill.cons 0 (List.Mem.head _) rfl (Own.slot 0 rfl) Fill.nil)) (xg_st [some (pin pa0 (o_Sender K cl_Sender cl_BearerError cl_NotValid v_310)), some (pin pa1 (o_Sender K cl_Sender cl_BearerError cl_NotValid l_other)), some (aD K (Cd.d (l_digits_here : (List Int)))), none, none, none, none, none, none, none] rfl (xg_bind fun v_311 hv_311 =>
  (xg_expr (xe_methX0 (xx := l_other) c_Sender_tick T_Sender.cl nm_Sender_tick (hr.mono (by decide)) hv_311 (xe_nmV 1 rfl) (Own.slot 1 rfl) (Own.slot 1 rfl) rfl rfl rfl (Fill.cons 0 (List.Mem.head _) rfl (Own.slot 1 rfl) Fill.nil)) (xg_st [some (pin pa0 (o_Sender K cl_Sender cl_BearerError cl_NotValid v_310)), some (pin pa1 (o_Sender K cl_Sender cl_BearerError cl_NotValid v_311)), some (aD K (Cd.d (l_digits_here : (List Int)))), none, none, none, none, none, none, none] rfl (xg_ret (A := (aD K (Cd.d (true : Bool)))) xe_bl (wk_k (wk_k (wk_k (wk_n (wk_n (wk_n (wk_n (wk_n (wk_n (wk_n (wk_n wk_0)))))))))))))))))))))))))))))))
def m_law (l_script : (List Int)) : Option Bool :=
  (Option.bind (m_l_cell l_script 0) fun v_312 =>
  (lett ((3 + (v_312 % 4)) : Int) fun l_bits_313 =>
  (Option.bind (m_l_cell l_script 0) fun v_314 =>
  (lett ((1 + ((v_314 / 4) % 4)) : Int) fun l_window_315 =>
  (Option.bind (m_Sender___init__ l_bits_313 l_window_315) fun v_316 =>
  (Option.bind (m_Sender___init__ l_bits_313 l_window_315) fun v_318 =>
  (Option.bind (m_l_many l_script 20 60) fun v_320 =>
  (Option.bind (guardO (-(2 ^ 62) ≤ (min ((List.length l_script : Nat) : Int) v_320) ∧ (min ((List.length l_script : Nat) : Int) v_320) < 2 ^ 62)) fun g_321 =>
  (thenR (foldB (fun (s_322 : (M_Sender × M_Sender)) (l_k_323 : Int) =>
  (Option.bind (m_l_cell l_script l_k_323) fun v_338 =>
  (Option.bind (m_l_digits (v_338 + (5 * l_k_323)) [8, 256, 41, 41, 6, 64]) fun v_339 =>
  (Option.bind (m_l_both s_322.1 s_322.2 v_339) fun v_340 =>
  (if (!v_340.1) = true then
  Option.map Sum.inl (some false) else
  (Option.bind (m_Sender_unconfirmed v_340.2.1) fun v_345 =>
  (Option.bind (m_Sender_unconfirmed v_340.2.2) fun v_346 =>
  (Option.bind ((if (!(decide ((v_345 : (List (Int × (List Int)))) = v_346))) = true then some true else (Option.bind (m_Sender_waiting v_340.2.1) fun v_347 => (Option.bind (m_Sender_waiting v_340.2.2) fun v_348 => (some (!(decide ((v_347 : (List (List Int))) = v_348)))))))) fun c_349 =>
  (if c_349 = true then
  Option.map Sum.inl (some false) else
  (Option.bind (m_Sender_is_idle v_340.2.1) fun v_350 =>
  (Option.bind (m_Sender_is_idle v_340.2.2) fun v_351 =>
  (if (!(decide ((v_350 : Bool) = v_351))) = true then
  Option.map Sum.inl (some false) else
  (some (Sum.inr (v_340.2.1, v_340.2.2))))))))))))))) (rangeI 0 (Int.toNat (min ((List.length l_script : Nat) : Int) v_320))) (v_316, v_318)) (fun s_352 =>
  (some true)) id)))))))))
abbrev sp_law (K : PySem.W.Frag) (cl_Sender : Addr) (cl_BearerError : Addr) (cl_NotValid : Addr) : Sp := SpM (fun x : (List Int) => [aR K (List.map Cd.d (x : List Int))]) (fun x => m_law x) (fun x (r : Bool) => [none]) (fun _ r => (aD K (Cd.d (r : Bool))))
abbrev s_law : Stmt := topS 28
theorem sc_law : FnScope ["_law_script", "_law_bits", "_law_window", "_law_one", "_law_other", "_law_k", "_law_digits_here"] ["_law_script"] (defScope s_law) := ⟨rfl, rfl, rfl, by decide +kernel, rfl, by decide +kernel, by decide +kernel⟩
set_option maxHeartbeats 4000000 in
theorem ok_law {P : Program} {w : World} {K : PySem.W.Frag} {mg : Str → Option Value} {base : Heap} {f : Addr} {cl_Sender : Addr} {cl_BearerError : Addr} {cl_NotValid : Addr} {fd : FuncData} (F : Fun K "law" "law" s_law f fd) (T_Sender : CF_Sender K cl_Sender) (X_BearerError : ExK K mg "BearerError" cl_BearerError) (E_BearerError : ExcC K cl_BearerError) (X_NotValid : ExK K mg "NotValid" cl_NotValid) (E_NotValid : ExcC K cl_NotValid) (xm_NotValid_BearerError : PySem.W.exmOne K (.ref cl_NotValid) (.ref cl_BearerError) = some true) (xk_NotValid_NotValid : PySem.W.kitOne K (.ref cl_NotValid) (.ref cl_NotValid) = some true) (m_int : mg "int" = none) (m_len : mg "len" = none) (m_min : mg "min" = none) (m_range : mg "range" = none) (c_Sender___init__ : CalC P w K mg base 1 cl_Sender "Sender" (sp_Sender___init__ K cl_Sender cl_BearerError cl_NotValid)) (c_Sender_is_idle : CalM P w K mg base 1 cl_Sender "is_idle" (sp_Sender_is_idle K cl_Sender cl_BearerError cl_NotValid)) (c_Sender_unconfirmed : CalM P w K mg base 1 cl_Sender "unconfirmed" (sp_Sender_unconfirmed K cl_Sender cl_BearerError cl_NotValid)) (c_Sender_waiting : CalM P w K mg base 1 cl_Sender "waiting" (sp_Sender_waiting K cl_Sender cl_BearerError cl_NotValid)) (c_l_both : Cal P w K mg base 8 "_law_both" (sp_l_both K cl_Sender cl_BearerError cl_NotValid)) (c_l_cell : Cal P w K mg base 1 "_law_cell" (sp_l_cell K cl_Sender cl_BearerError cl_NotValid)) (c_l_digits : Cal P w K mg base 1 "_law_digits" (sp_l_digits K cl_Sender cl_BearerError cl_NotValid)) (c_l_many : Cal P w K mg base 1 "_law_many" (sp_l_many K cl_Sender cl_BearerError cl_NotValid)) : FnOk P w K mg base CX0 9 f fd ["_law_script"] (sp_law K cl_Sender cl_BearerError cl_NotValid) :=
  fn_ok (k := 8) [false] F sc_law rfl (fun _ => rfl) (fun _ _ => rfl) fun x vs cdv A outer s H E hv hr => by
    match x, vs, hv with
    | l_script, [pa0], _ =>
      have nd := sc_law.nd
      show XG _ _ [some (aR K (List.map Cd.d (l_script : List Int))), none, none, none, none, none, none] (m_law l_script) (oR fun r : Bool => [some ((aD K (Cd.d (r : Bool)))), none, none, none, none, none, none, none])
      unfold m_law
      exact (xg_st [some (aR K (List.map Cd.d (l_script : List Int))), none, none, none, none, none, none] rfl (xg_bind fun v_312 hv_312 =>
  (xg_lett fun l_bits_313 hl_bits_313 =>
  (xg_asg 1 (A := aD K (Cd.d (l_bits_313 : Int))) (xe_nv (v := ((3 + (v_312 % 4)) : Int)) (xe_add xe_int (xe_mod (by decide) (xe_int1 (xe_callX (xx := (l_script, 0)) c_l_cell (hr.mono (by decide)) hv_312 (xx_of (xa_cons (xe_nmR 0 rfl) (xa_cons xe_int xa_nil))) rfl rfl Fill.nil) m_int) xe_int)) hl_bits_313) (xg_st [some (aR K (List.map Cd.d (l_script : List Int))), some (aD K (Cd.d (l_bits_313 : Int))), none, none, none, none, none] rfl (xg_bind fun v_314 hv_314 =>
  (xg_lett fun l_window_315 hl_window_315 =>
  (xg_asg 2 (A := aD K (Cd.d (l_window_315 : Int))) (xe_nv (v := ((1 + ((v_314 / 4) % 4)) : Int)) (xe_add xe_int (xe_mod (by decide) (xe_div (by decide) (xe_int1 (xe_callX (xx := (l_script, 0)) c_l_cell (hr.mono (by decide)) hv_314 (xx_of (xa_cons (xe_nmR 0 rfl) (xa_cons xe_int xa_nil))) rfl rfl Fill.nil) m_int) xe_int) xe_int)) hl_window_315) (xg_st [some (aR K (List.map Cd.d (l_script : List Int))), some (aD K (Cd.d (l_bits_313 : Int))), some (aD K (Cd.d (l_window_315 : Int))), none, none, none, none] rfl (xg_bind fun v_316 hv_316 =>
  (xg_asgP 3 (xe_makeX (xx := (l_bits_313, l_window_315)) c_Sender___init__ (hr.mono (by decide)) hv_316 (xx_of (xa_cons (xe_nm 1 rfl) (xa_cons (xe_nm 2 rfl) xa_nil))) rfl rfl rfl rfl Fill.nil) fun pv_317 => (xg_st [some (aR K (List.map Cd.d (l_script : List Int))), some (aD K (Cd.d (l_bits_313 : Int))), some (aD K (Cd.d (l_window_315 : Int))), some (pin pv_317 (o_Sender K cl_Sender cl_BearerError cl_NotValid v_316)), none, none, none] rfl (xg_bind fun v_318 hv_318 =>
  (xg_asgP 4 (xe_makeX (xx := (l_bits_313, l_window_315)) c_Sender___init__ (hr.mono (by decide)) hv_318 (xx_of (xa_cons (xe_nm 1 rfl) (xa_cons (xe_nm 2 rfl) xa_nil))) rfl rfl rfl rfl Fill.nil) fun pv_319 => (xg_st [some (aR K (List.map Cd.d (l_script : List Int))), some (aD K (Cd.d (l_bits_313 : Int))), some (aD K (Cd.d (l_window_315 : Int))), some (pin pv_317 (o_Sender K cl_Sender cl_BearerError cl_NotValid v_316)), some (pin pv_319 (o_Sender K cl_Sender cl_BearerError cl_NotValid v_318)), none, none] rfl (xg_bind fun v_320 hv_320 =>
  (xg_bind fun g_321 hg_321 =>
  (xg_forR (N := (fun s_322 : (M_Sender × M_Sender) => [some (aR K (List.map Cd.d (l_script : List Int))), some (aD K (Cd.d (l_bits_313 : Int))), some (aD K (Cd.d (l_window_315 : Int))), some (pin pv_317 (o_Sender K cl_Sender cl_BearerError cl_NotValid s_322.1)), some (pin pv_319 (o_Sender K cl_Sender cl_BearerError cl_NotValid s_322.2)), none, none])) PassesOwn.never rfl (xi_range1 (by exact rfl) m_range (xe_min2 rfl (xc_len (xs := l_script) (xe_nmR 0 rfl) rlR m_len) (xe_callX (xx := (l_script, 20, 60)) c_l_many (hr.mono (by decide)) hv_320 (xx_of (xa_cons (xe_nmR 0 rfl) (xa_cons xe_int (xa_cons xe_int xa_nil)))) rfl rfl Fill.nil) m_min) (guardO_eq hg_321)) (by exact (wk_k (wk_k (wk_k (wk_k (wk_k (wk_n (wk_n wk_0)))))))) (fun _ => trivial) (fun _ _ => (xp_nm 5)) (fun l_k_323 s_322 => (xg_st [some (aR K (List.map Cd.d (l_script : List Int))), some (aD K (Cd.d (l_bits_313 : Int))), some (aD K (Cd.d (l_window_315 : Int))), some (pin pv_317 (o_Sender K cl_Sender cl_BearerError cl_NotValid s_322.1)), some (pin pv_319 (o_Sender K cl_Sender cl_BearerError cl_NotValid s_322.2)), some (aD K (Cd.d (l_k_323 : Int))), none] rfl (xg_bind fun v_338 hv_338 =>
  (xg_bind fun v_339 hv_339 =>
  (xg_asg 6 (A := aD K (Cd.d (v_339 : (List Int)))) (xe_callX (xx := ((v_338 + (5 * l_k_323)), [8, 256, 41, 41, 6, 64])) c_l_digits (hr.mono (by decide)) hv_339 (xx_of (xa_cons (xe_add (xe_callX (xx := (l_script, l_k_323)) c_l_cell (hr.mono (by decide)) hv_338 (xx_of (xa_cons (xe_nmR 0 rfl) (xa_cons (xe_nm 5 rfl) xa_nil))) rfl rfl Fill.nil) (xe_mul (mulL 5) xe_int (xe_nm 5 rfl))) (xa_cons (xe_frz (xe_lstD (xs := ([8, 256, 41, 41, 6, 64] : List Int)) (xa_cons xe_int (xa_cons xe_int (xa_cons xe_int (xa_cons xe_int (xa_cons xe_int (xa_cons xe_int xa_nil)))))) (Nat.le_of_ble_eq_true rfl))) xa_nil))) rfl rfl Fill.nil) (xg_st [some (aR K (List.map Cd.d (l_script : List Int))), some (aD K (Cd.d (l_bits_313 : Int))), some (aD K (Cd.d (l_window_315 : Int))), some (pin pv_317 (o_Sender K cl_Sender cl_BearerError cl_NotValid s_322.1)), some (pin pv_319 (o_Sender K cl_Sender cl_BearerError cl_NotValid s_322.2)), some (aD K (Cd.d (l_k_323 : Int))), some (aD K (Cd.d (v_339 : (List Int))))] rfl (xg_bind fun v_340 hv_340 =>
  (xg_ifRB (u := []) (xt_not (xt_v (xe_callX (xx := (s_322.1, s_322.2, v_339)) c_l_both (hr.mono (by decide)) hv_340 (xx_lend 1 (xx_lend 0 (xx_of (xa_cons (xe_nmV 3 rfl) (xa_cons (xe_nmV 4 rfl) (xa_cons (xe_nm 6 rfl) xa_nil)))) rfl (Own.slot 3 rfl)) rfl (Own.slot 4 rfl)) rfl rfl (Fill.cons 1 (List.Mem.head _) rfl (Own.slot 4 rfl) (Fill.cons 0 (List.Mem.tail _ (List.Mem.head _)) rfl (Own.slot 3 rfl) Fill.nil))))) (fun _ => (xg_st [some (aR K (List.map Cd.d (l_script : List Int))), some (aD K (Cd.d (l_bits_313 : Int))), some (aD K (Cd.d (l_window_315 : Int))), some (pin pv_317 (o_Sender K cl_Sender cl_BearerError cl_NotValid v_340.2.1)), some (pin pv_319 (o_Sender K cl_Sender cl_BearerError cl_NotValid v_340.2.2)), some (aD K (Cd.d (l_k_323 : Int))), some (aD K (Cd.d (v_339 : (List Int))))] rfl (xg_ret (A := (aD K (Cd.d (false : Bool)))) xe_bl (wk_k (wk_n (wk_n (wk_n (wk_n (wk_n (wk_n (wk_n wk_0))))))))))) (fun _ => (xg_st [some (aR K (List.map Cd.d (l_script : List Int))), some (aD K (Cd.d (l_bits_313 : Int))), some (aD K (Cd.d (l_window_315 : Int))), some (pin pv_317 (o_Sender K cl_Sender cl_BearerError cl_NotValid v_340.2.1)), some (pin pv_319 (o_Sender K cl_Sender cl_BearerError cl_NotValid v_340.2.2)), some (aD K (Cd.d (l_k_323 : Int))), some (aD K (Cd.d (v_339 : (List Int))))] rfl (xg_bind fun v_345 hv_345 =>
  (xg_bind fun v_346 hv_346 =>
  (xg_bind fun c_349 hc_349 =>
  (xg_ifRB (u := []) (xt_w (xw_orM (xt_k (xkc_ne (x := (v_345 : (List (Int × (List Int))))) (y := (v_346 : (List (Int × (List Int))))) hr.units (xe_methX0 (xx := v_340.2.1) c_Sender_unconfirmed T_Sender.cl nm_Sender_unconfirmed (hr.mono (by decide)) hv_345 (xe_nmV 3 rfl) (Own.slot 3 rfl) (Own.slot 3 rfl) rfl rfl rfl (Fill.cons 0 (List.Mem.head _) rfl (Own.slot 3 rfl) Fill.nil)) (xe_methX0 (xx := v_340.2.2) c_Sender_unconfirmed T_Sender.cl nm_Sender_unconfirmed (hr.mono (by decide)) hv_346 (xe_nmV 4 rfl) (Own.slot 4 rfl) (Own.slot 4 rfl) rfl rfl rfl (Fill.cons 0 (List.Mem.head _) rfl (Own.slot 4 rfl) Fill.nil)) (Rls.da (Rlm.ls rmL)) (Rls.da (Rlm.ls rmL)))) (xwm_or1 (xtm_bind fun v_347 hv_347 => (xtm_bind fun v_348 hv_348 => (xtm_some (xt_k (xkc_ne (x := (v_347 : (List (List Int)))) (y := (v_348 : (List (List Int)))) hr.units (xe_methX0 (xx := v_340.2.1) c_Sender_waiting T_Sender.cl nm_Sender_waiting (hr.mono (by decide)) hv_347 (xe_nmV 3 rfl) (Own.slot 3 rfl) (Own.slot 3 rfl) rfl rfl rfl (Fill.cons 0 (List.Mem.head _) rfl (Own.slot 3 rfl) Fill.nil)) (xe_methX0 (xx := v_340.2.2) c_Sender_waiting T_Sender.cl nm_Sender_waiting (hr.mono (by decide)) hv_348 (xe_nmV 4 rfl) (Own.slot 4 rfl) (Own.slot 4 rfl) rfl rfl rfl (Fill.cons 0 (List.Mem.head _) rfl (Own.slot 4 rfl) Fill.nil)) (Rls.da (Rlm.ls rmL)) (Rls.da (Rlm.ls rmL)))))))) hc_349)) (fun _ => (xg_st [some (aR K (List.map Cd.d (l_script : List Int))), some (aD K (Cd.d (l_bits_313 : Int))), some (aD K (Cd.d (l_window_315 : Int))), some (pin pv_317 (o_Sender K cl_Sender cl_BearerError cl_NotValid v_340.2.1)), some (pin pv_319 (o_Sender K cl_Sender cl_BearerError cl_NotValid v_340.2.2)), some (aD K (Cd.d (l_k_323 : Int))), some (aD K (Cd.d (v_339 : (List Int))))] rfl (xg_ret (A := (aD K (Cd.d (false : Bool)))) xe_bl (wk_k (wk_n (wk_n (wk_n (wk_n (wk_n (wk_n (wk_n wk_0))))))))))) (fun _ => (xg_st [some (aR K (List.map Cd.d (l_script : List Int))), some (aD K (Cd.d (l_bits_313 : Int))), some (aD K (Cd.d (l_window_315 : Int))), some (pin pv_317 (o_Sender K cl_Sender cl_BearerError cl_NotValid v_340.2.1)), some (pin pv_319 (o_Sender K cl_Sender cl_BearerError cl_NotValid v_340.2.2)), some (aD K (Cd.d (l_k_323 : Int))), some (aD K (Cd.d (v_339 : (List Int))))] rfl (xg_bind fun v_350 hv_350 =>
  (xg_bind fun v_351 hv_351 =>
  (xg_ifRB (u := []) (xt_k (xkc_ne (x := (v_350 : Bool)) (y := (v_351 : Bool)) hr.units (xe_methX0 (xx := v_340.2.1) c_Sender_is_idle T_Sender.cl nm_Sender_is_idle (hr.mono (by decide)) hv_350 (xe_nmV 3 rfl) (Own.slot 3 rfl) (Own.slot 3 rfl) rfl rfl rfl (Fill.cons 0 (List.Mem.head _) rfl (Own.slot 3 rfl) Fill.nil)) (xe_methX0 (xx := v_340.2.2) c_Sender_is_idle T_Sender.cl nm_Sender_is_idle (hr.mono (by decide)) hv_351 (xe_nmV 4 rfl) (Own.slot 4 rfl) (Own.slot 4 rfl) rfl rfl rfl (Fill.cons 0 (List.Mem.head _) rfl (Own.slot 4 rfl) Fill.nil)) rdD rdD)) (fun _ => (xg_st [some (aR K (List.map Cd.d (l_script : List Int))), some (aD K (Cd.d (l_bits_313 : Int))), some (aD K (Cd.d (l_window_315 : Int))), some (pin pv_317 (o_Sender K cl_Sender cl_BearerError cl_NotValid v_340.2.1)), some (pin pv_319 (o_Sender K cl_Sender cl_BearerError cl_NotValid v_340.2.2)), some (aD K (Cd.d (l_k_323 : Int))), some (aD K (Cd.d (v_339 : (List Int))))] rfl (xg_ret (A := (aD K (Cd.d (false : Bool)))) xe_bl (wk_k (wk_n (wk_n (wk_n (wk_n (wk_n (wk_n (wk_n wk_0))))))))))) (fun _ => (xg_nilB (wk_k (wk_k (wk_k (wk_k (wk_k (wk_n (wk_n wk_0)))))))))))))))))))))))))))) (fun s_352 => (xg_st [some (aR K (List.map Cd.d (l_script : List Int))), some (aD K (Cd.d (l_bits_313 : Int))), some (aD K (Cd.d (l_window_315 : Int))), some (pin pv_317 (o_Sender K cl_Sender cl_BearerError cl_NotValid s_352.1)), some (pin pv_319 (o_Sender K cl_Sender cl_BearerError cl_NotValid s_352.2)), none, none] rfl (xg_ret (A := (aD K (Cd.d (true : Bool)))) xe_bl (wk_k (wk_n (wk_n (wk_n (wk_n (wk_n (wk_n (wk_n wk_0)))))))))))))))))))))))))))))

theorem cell_some (ns : List Int) (k : Int) (hk : 0 ≤ k) : ∃ v, m_l_cell ns k = some v := by
  unfold m_l_cell
  by_cases h : k < (ns.length : Int)
  · rw [if_pos (decide_eq_true h)]
    obtain ⟨x, e, _⟩ := atI_lt hk h
    exact ⟨x, by rw [e]; rfl⟩
  · rw [if_neg (by simp [h])]
    exact ⟨0, rfl⟩

theorem digits_fold (c : Int) : ∀ (bs : List Int) (ds : List Int) (r : Int), (∀ b ∈ bs, 0 < b ∧ b < 2 ^ 64) → ds.length + bs.length ≤ 100 →
    ∃ ds' r', List.foldlM (fun (s_10 : ((List Int) × Int)) (l_base_11 : Int) =>
  (Option.bind (if (decide (1000000000000000000 ≤ c)) = true then
  (Option.bind (modM s_10.2 l_base_11) fun r_21 =>
  (Option.bind (guardO (List.length s_10.1 < 1000000)) fun g_22 =>
  (Option.bind (divM s_10.2 l_base_11) fun q_23 =>
  (some ((s_10.1 ++ [r_21]), q_23))))) else
  (lett (((((s_10.2 * 48271) + (1009 * ((List.length s_10.1 : Nat) : Int))) + 12345) % 2147483647) : Int) fun l_rest_24 =>
  (Option.bind (mulM l_rest_24 l_rest_24) fun p_25 =>
  (lett ((p_25 % 2147483629) : Int) fun l_mixed_26 =>
  (Option.bind (modM (l_mixed_26 / 13) l_base_11) fun r_27 =>
  (Option.bind (guardO (List.length s_10.1 < 1000000)) fun g_28 =>
  (some ((s_10.1 ++ [r_27]), l_rest_24)))))))) fun s_20 =>
  (some (s_20.1, s_20.2)))) (ds, r) bs = some (ds ++ ds', r') ∧ F2 (fun d b => 0 ≤ d ∧ d < b) ds' bs
  | [], ds, r, _, _ => ⟨[], r, by simp, .nil⟩
  | b :: bs, ds, r, h, hl => by
    obtain ⟨hb1, hb2⟩ := h b (by simp)
    have hl' : ds.length + (bs.length + 1) ≤ 100 := by simpa using hl
    have g : guardO (ds.length < 1000000) = some () := guardO_some (by omega)
    by_cases hc : 1000000000000000000 ≤ c
    · obtain ⟨ds', r', e, f⟩ := digits_fold c bs (ds ++ [r % b]) (r / b) (fun x hx => h x (by simp [hx])) (by simp; omega)
      refine ⟨(r % b) :: ds', r', ?_, .cons ⟨Int.emod_nonneg _ (by omega), Int.emod_lt_of_pos _ hb1⟩ f⟩
      rw [List.foldlM_cons]
      rw [if_pos (decide_eq_true hc), modM_some hb1, bsome, g, bsome, divM_some ⟨hb1, hb2⟩]
      rw [List.append_assoc] at e
      exact e
    · obtain ⟨q, hq⟩ : ∃ q, q = ((((r * 48271) + (1009 * ((List.length ds : Nat) : Int))) + 12345) % 2147483647) := ⟨_, rfl⟩
      have hr0 := Int.emod_nonneg ((r * 48271) + (1009 * ((List.length ds : Nat) : Int)) + 12345) (show (2147483647 : Int) ≠ 0 by decide)
      have hr1 := Int.emod_lt_of_pos ((r * 48271) + (1009 * ((List.length ds : Nat) : Int)) + 12345) (show (0 : Int) < 2147483647 by decide)
      rw [← hq] at hr0 hr1
      obtain ⟨ds', r', e, f⟩ := digits_fold c bs (ds ++ [(q * q % 2147483629) / 13 % b]) q (fun x hx => h x (by simp [hx])) (by simp; omega)
      refine ⟨((q * q % 2147483629) / 13 % b) :: ds', r', ?_, .cons ⟨Int.emod_nonneg _ (by omega), Int.emod_lt_of_pos _ hb1⟩ f⟩
      rw [List.foldlM_cons]
      rw [if_neg (by simp [hc])]
      simp only [lett]
      rw [← hq, mulM_some (.inl ⟨by omega, by omega⟩), bsome, modM_some hb1, bsome, g]
      rw [List.append_assoc] at e
      exact e
theorem digits_some (c : Int) (bs : List Int) (h : ∀ b ∈ bs, 0 < b ∧ b < 2 ^ 64) (hl : bs.length ≤ 100) : ∃ ds, m_l_digits c bs = some ds ∧ F2 (fun d b => 0 ≤ d ∧ d < b) ds bs := by
  obtain ⟨ds, r, e, f⟩ := digits_fold c bs [] c h (by simpa using hl)
  refine ⟨ds, ?_, f⟩
  unfold m_l_digits
  rw [List.nil_append] at e
  rw [e]
  rfl

/- fields -/
theorem check_fold : ∀ (W : List Int), (∀ w ∈ W, 1 ≤ w) → List.foldlM (fun (s_1 : Unit) (width_2 : Int) =>
  (Option.bind (if (decide (width_2 < 1)) = true then
  none else
  (some ())) fun s_3 =>
  (some ()))) () W = some ()
  | [], _ => rfl
  | w :: W, h => by
    have := h w (by simp)
    rw [List.foldlM_cons, if_neg (by simp; omega)]
    exact check_fold W fun x hx => h x (by simp [hx])
theorem check_some {W : List Int} (h : ∀ w ∈ W, 1 ≤ w) : m_check_widths W = some () := by
  unfold m_check_widths
  rw [check_fold W h]
  rfl
theorem fb_some {W : List Int} (h : ∀ w ∈ W, 1 ≤ w) : m_field_bytes W = some ((W.sum + 7) / 8) := by
  unfold m_field_bytes
  rw [check_some h]
  rfl
def pf : List (Int × Int) → Int → Int
  | [], s => s
  | z :: zs, s => pf zs (s * 2 ^ z.1.toNat + z.2)
theorem pow8 {w : Nat} (h : w ≤ 8) : (1 : Int) ≤ 2 ^ w ∧ (2 : Int) ^ w ≤ 256 := by
  have : w = 0 ∨ w = 1 ∨ w = 2 ∨ w = 3 ∨ w = 4 ∨ w = 5 ∨ w = 6 ∨ w = 7 ∨ w = 8 := by omega
  rcases this with e | e | e | e | e | e | e | e | e <;> subst e <;> decide
theorem p256 {k : Nat} (h : k ≤ 7) : (256 : Int) ^ k ≤ 2 ^ 56 := by
  have : k = 0 ∨ k = 1 ∨ k = 2 ∨ k = 3 ∨ k = 4 ∨ k = 5 ∨ k = 6 ∨ k = 7 := by omega
  rcases this with e | e | e | e | e | e | e | e <;> subst e <;> decide
theorem pack_fold : ∀ (zs : List (Int × Int)) (s : Int) (k : Nat), (∀ z ∈ zs, 0 ≤ z.1 ∧ z.1 ≤ 8 ∧ 0 ≤ z.2 ∧ z.2 < 2 ^ z.1.toNat) → 0 ≤ s → s + 1 ≤ 256 ^ k → k + zs.length ≤ 7 →
    List.foldlM (fun (s_7 : Int) (width_8 : (Int × Int)) =>
  (Option.bind ((if (decide (width_8.2 < 0)) = true then some true else (Option.bind (guardO (PowOk 1 width_8.1)) fun g_10 => (some (decide ((1 * 2 ^ Int.toNat width_8.1) ≤ width_8.2)))))) fun c_11 =>
  (Option.bind (if c_11 = true then
  none else
  (some ())) fun s_12 =>
  (Option.bind (guardO (PowOk s_7 width_8.1)) fun g_13 =>
  (lett (((s_7 * 2 ^ Int.toNat width_8.1) + width_8.2) : Int) fun whole_14 =>
  (some whole_14)))))) s zs = some (pf zs s) ∧ 0 ≤ pf zs s ∧ pf zs s + 1 ≤ 256 ^ (k + zs.length)
  | [], s, k, _, h0, h1, _ => ⟨rfl, h0, h1⟩
  | z :: zs, s, k, h, h0, h1, hk => by
    obtain ⟨a1, a2, a3, a4⟩ := h z (by simp)
    have hk' : k + (zs.length + 1) ≤ 7 := by simpa using hk
    have hp := pow8 (w := z.1.toNat) (by omega)
    have hb := p256 (k := k) (by omega)
    have e256 : (256 : Int) ^ (k + 1) = 256 ^ k * 256 := Int.pow_succ _ _
    have m0 : 0 ≤ s * 2 ^ z.1.toNat := Int.mul_nonneg h0 (by omega)
    have m1 : (s + 1) * 2 ^ z.1.toNat ≤ 256 ^ k * 256 := Int.mul_le_mul h1 hp.2 (by omega) (by omega)
    have m2 : (s + 1) * 2 ^ z.1.toNat = s * 2 ^ z.1.toNat + 2 ^ z.1.toNat := by rw [Int.add_mul, Int.one_mul]
    obtain ⟨e, i1, i2⟩ := pack_fold zs (s * 2 ^ z.1.toNat + z.2) (k + 1) (fun y hy => h y (by simp [hy])) (by omega) (by omega) (by omega)
    rw [List.foldlM_cons, if_neg (by simp; omega), guardO_some ⟨a1, by omega, by decide⟩, bsome, bsome, if_neg (by simp; omega), bsome, guardO_some ⟨a1, by omega, by omega⟩, bsome, lett_eq]
    refine ⟨e, i1, ?_⟩
    have : k + (z :: zs).length = k + 1 + zs.length := by simp; omega
    rw [this]
    exact i2
theorem pack_some {W V : List Int} (hl : W.length = V.length) (hn : W.length ≤ 6) (hw : ∀ w ∈ W, 1 ≤ w) (hz : ∀ z ∈ List.zip W V, 0 ≤ z.1 ∧ z.1 ≤ 8 ∧ 0 ≤ z.2 ∧ z.2 < 2 ^ z.1.toNat) (hs : 0 ≤ W.sum ∧ W.sum ≤ 100) :
    m_pack W V = some ((rangeI 0 ((W.sum + 7) / 8).toNat).map fun i => pf (List.zip W V) 0 * 2 ^ (8 * ((W.sum + 7) / 8) - W.sum).toNat / 2 ^ (8 * (((W.sum + 7) / 8 - 1) - i)).toNat % 256) := by
  obtain ⟨e, i1, i2⟩ := pack_fold (List.zip W V) 0 0 hz (Int.le_refl 0) (by decide) (by rw [List.length_zip]; omega)
  have hb := p256 (k := 0 + (List.zip W V).length) (by rw [List.length_zip]; omega)
  unfold m_pack
  rw [check_some hw, bsome, if_neg (by simp; omega), e, bsome, fb_some hw, bsome, guardO_some ⟨by omega, by omega, by omega⟩, bsome, lett_eq, guardO_some (by omega), bsome, mapO_some (g := fun i => pf (List.zip W V) 0 * 2 ^ (8 * ((W.sum + 7) / 8) - W.sum).toNat / 2 ^ (8 * (((W.sum + 7) / 8 - 1) - i)).toNat % 256) (by rw [rangeI_len]; omega) (fun i hi => by
    have := mem_rangeI.mp hi
    rw [guardO_some (by omega), bsome]), bsome]
def WS (b : Int) : List Int := [1, 1, b, 2]
def WL (b : Int) : List Int := [1, 1, b, 2, 8]
theorem zipS {b p n q : Int} (hb : 3 ≤ b ∧ b ≤ 6) (hp : 0 ≤ p ∧ p ≤ 1) (hn : 0 ≤ n ∧ n < 2 ^ b.toNat) (hq : 0 ≤ q ∧ q ≤ 3) : ∀ z ∈ List.zip (WS b) [0, p, n, q], 0 ≤ z.1 ∧ z.1 ≤ 8 ∧ 0 ≤ z.2 ∧ z.2 < 2 ^ z.1.toNat := by
  intro z hz
  simp only [WS, List.zip_cons_cons, List.zip_nil_right, List.mem_cons, List.not_mem_nil, or_false] at hz
  rcases hz with e | e | e | e <;> subst e
  · decide
  · exact ⟨by show (0 : Int) ≤ 1; decide, by show (1 : Int) ≤ 8; decide, by show 0 ≤ p; omega, by show p < 2; omega⟩
  · exact ⟨by show 0 ≤ b; omega, by show b ≤ 8; omega, hn.1, hn.2⟩
  · exact ⟨by show (0 : Int) ≤ 2; decide, by show (2 : Int) ≤ 8; decide, by show 0 ≤ q; omega, by show q < 4; omega⟩
theorem zipL {b p n q o : Int} (hb : 3 ≤ b ∧ b ≤ 6) (hp : 0 ≤ p ∧ p ≤ 1) (hn : 0 ≤ n ∧ n < 2 ^ b.toNat) (hq : 0 ≤ q ∧ q ≤ 3) (ho : 0 ≤ o ∧ o < 256) : ∀ z ∈ List.zip (WL b) [0, p, n, q, o], 0 ≤ z.1 ∧ z.1 ≤ 8 ∧ 0 ≤ z.2 ∧ z.2 < 2 ^ z.1.toNat := by
  intro z hz
  have e : List.zip (WL b) [0, p, n, q, o] = List.zip (WS b) [0, p, n, q] ++ [(8, o)] := rfl
  rw [e] at hz
  rcases List.mem_append.mp hz with h | h
  · exact zipS hb hp hn hq z h
  · have : z = (8, o) := by simpa using h
    subst this
    exact ⟨by show (0 : Int) ≤ 8; decide, by show (8 : Int) ≤ 8; decide, ho.1, by show o < 256; omega⟩
theorem widths_some (b q : Int) : m_data_widths b q = some (if q = 2 ∨ q = 3 then WL b else WS b) := by
  unfold m_data_widths
  by_cases h : q = 2 ∨ q = 3
  · rw [if_pos (by simpa using h), if_pos h, guardO_some (by simp), bsome, bsome]
    rfl
  · rw [if_neg (by simpa using h), if_neg h, bsome]
    rfl
/- how long the head of a piece is -/
def hd (b s : Int) : Int := if s = 0 then (4 + b + 7) / 8 else (12 + b + 7) / 8
theorem sumS (b : Int) : (WS b).sum = 4 + b := by simp [WS]; omega
theorem sumL (b : Int) : (WL b).sum = 12 + b := by simp [WL]; omega
theorem pow_b {b : Int} (hb : 3 ≤ b ∧ b ≤ 6) : (8 : Int) ≤ 2 ^ b.toNat ∧ (2 : Int) ^ b.toNat ≤ 64 := by
  have : b = 3 ∨ b = 4 ∨ b = 5 ∨ b = 6 := by omega
  rcases this with e | e | e | e <;> subst e <;> decide

theorem piece_some {b num q o : Int} {poll : Bool} {body : List Int} (hb : 3 ≤ b ∧ b ≤ 6) (hq : 0 ≤ q ∧ q ≤ 3) (ho : 0 ≤ o ∧ o < 256) (h0 : ¬ (q = 2 ∨ q = 3) → o = 0) (hl : body ≠ []) (hl2 : body.length ≤ 1000) :
    ∃ pc, m_data_piece b poll num q o body = some pc ∧ (pc.length : Int) = (if q = 2 ∨ q = 3 then (12 + b + 7) / 8 else (4 + b + 7) / 8) + body.length ∧ True := by
  have hpb := pow_b hb
  obtain ⟨p, ep, hp⟩ : ∃ p : Int, p = (if poll = true then (1 : Int) else 0) ∧ (0 ≤ p ∧ p ≤ 1) := ⟨_, rfl, by cases poll <;> decide⟩
  obtain ⟨n, en⟩ : ∃ n : Int, n = num % 2 ^ b.toNat := ⟨_, rfl⟩
  have hn : 0 ≤ n ∧ n < 2 ^ b.toNat := by rw [en]; exact ⟨Int.emod_nonneg _ (by omega), Int.emod_lt_of_pos _ (by omega)⟩
  have hbl : 0 < body.length := List.length_pos_iff.mpr hl
  have hlS : ∀ w ∈ WS b, 1 ≤ w := by simp [WS]; omega
  have hlL : ∀ w ∈ WL b, 1 ≤ w := by simp [WL]; omega
  unfold m_data_piece
  rw [guardO_some ⟨by omega, by omega, by decide⟩, bsome, Int.one_mul, modM_some (by omega), bsome, ← ep, ← en, widths_some]
  by_cases h : q = 2 ∨ q = 3
  · have sL := sumL b
    rw [if_pos (by simpa using h), guardO_some (by simp), bsome, bsome, bsome, if_pos h, show ([0, p, n, q] : List Int) ++ [o] = [0, p, n, q, o] from rfl, pack_some (W := WL b) (V := [0, p, n, q, o]) rfl (by simp [WL]) hlL (zipL hb hp hn hq ho) (by omega), bsome, guardO_some (by rw [List.length_map, rangeI_len]; omega)]
    refine ⟨_, rfl, ?_, trivial⟩
    rw [if_pos h, List.length_append, List.length_map, rangeI_len, sL]
    omega
  · have sS := sumS b
    rw [if_neg (by simpa using h), bsome, bsome, if_neg h, pack_some (W := WS b) (V := [0, p, n, q]) rfl (by simp [WS]) hlS (zipS hb hp hn hq) (by omega), bsome, guardO_some (by rw [List.length_map, rangeI_len]; omega)]
    refine ⟨_, rfl, ?_, trivial⟩
    rw [if_neg h, List.length_append, List.length_map, rangeI_len, sS]
    omega
/- which part of a packet a segment is -/
def pt (len s e : Int) : Int := if s = 0 then (if e = len then 0 else 1) else (if e = len then 2 else 3)
theorem part_some (packet : List Int) (s e : Int) : m_part_of packet s e = some (pt packet.length s e) := by
  unfold m_part_of pt
  by_cases h1 : s = 0
  · by_cases h2 : e = packet.length
    · rw [if_pos (by simp [h1, h2]), if_pos h1, if_pos h2]
    · rw [if_neg (by simp [h2]), if_pos (by simp [h1]), if_pos h1, if_neg h2]
  · by_cases h2 : e = packet.length
    · rw [if_neg (by simp [h1]), if_neg (by simp [h1]), if_pos (by simp [h2]), if_neg h1, if_pos h2]
    · rw [if_neg (by simp [h1]), if_neg (by simp [h1]), if_neg (by simp [h2]), if_neg h1, if_neg h2]
theorem pt_long {len s e : Int} : (pt len s e = 2 ∨ pt len s e = 3) ↔ s ≠ 0 := by
  unfold pt
  by_cases h1 : s = 0
  · by_cases h2 : e = len <;> simp [h1, h2]
  · by_cases h2 : e = len <;> simp [h1, h2]
theorem pt_b {len s e : Int} : 0 ≤ pt len s e ∧ pt len s e ≤ 3 := by
  unfold pt
  by_cases h1 : s = 0
  · by_cases h2 : e = len <;> simp [h1, h2]
  · by_cases h2 : e = len <;> simp [h1, h2]
/- the end of the piece that fits -/
def best (b s t r : Int) : Int := min t (r - hd b s + s)
theorem cut_some {b num s t r : Int} {poll : Bool} {packet : List Int} (hb : 3 ≤ b ∧ b ≤ 6) (h0 : 0 ≤ s) (h1 : s ≤ t) (h2 : t ≤ packet.length) (h3 : packet.length ≤ 200) :
    (¬ s < best b s t r → m_cut b poll num packet s t r = some none) ∧
    (s < best b s t r → ∃ pc, m_cut b poll num packet s t r = some (some (pc, best b s t r)) ∧ (pc.length : Int) = hd b s + best b s t r - s ∧ True) := by
  have hlS : ∀ w ∈ WS b, 1 ≤ w := by simp [WS]; omega
  have hlL : ∀ w ∈ WL b, 1 ≤ w := by simp [WL]; omega
  have head : ∀ e, m_data_widths b (pt packet.length s e) = some (if s = 0 then WS b else WL b) := fun e => by
    rw [widths_some]
    by_cases h : s = 0
    · rw [if_neg (fun z => pt_long.mp z h), if_pos h]
    · rw [if_pos (pt_long.mpr h), if_neg h]
  have fb : m_field_bytes (if s = 0 then WS b else WL b) = some (hd b s) := by
    unfold hd
    by_cases h : s = 0
    · rw [if_pos h, if_pos h, fb_some hlS, sumS]
    · rw [if_neg h, if_neg h, fb_some hlL, sumL]
  obtain ⟨f, hf⟩ : ∃ f : Unit → Int → Option (Option ((List Int) × Int) ⊕ Unit), f = fun (s_66 : Unit) (end_67 : Int) =>
  (Option.bind (m_part_of packet s end_67) fun v_68 =>
  (Option.bind (m_data_widths b v_68) fun v_69 =>
  (Option.bind (m_field_bytes v_69) fun v_70 =>
  (if (decide (((v_70 + end_67) - s) ≤ r)) = true then
  Option.map Sum.inl (Option.bind (m_data_piece b poll num v_68 s (cutL packet (some s) (some end_67))) fun v_71 =>
  (some (some (v_71, end_67)))) else
  (some (Sum.inr ())))))) := ⟨_, rfl⟩
  have hfe : ∀ e, f () e = if hd b s + e - s ≤ r then Option.map Sum.inl (Option.bind (m_data_piece b poll num (pt packet.length s e) s (cutL packet (some s) (some e))) fun v_71 => (some (some (v_71, e)))) else some (Sum.inr ()) := fun e => by
    rw [hf]
    show Option.bind (m_part_of packet s e) _ = _
    rw [part_some, bsome, head, bsome, fb, bsome]
    by_cases q : hd b s + e - s ≤ r
    · rw [if_pos (decide_eq_true q), if_pos q]
    · rw [if_neg (by simpa using q), if_neg q]
  have loop : ∀ (k : Nat) (e : Int), e = s + k → foldB f (rangeC e (-1) k) () = if s < best b s e r then f () (best b s e r) else some (.inr ()) := fun k => by
    induction k with
    | zero =>
      intro e he
      rw [if_neg (by unfold best; omega)]
      rfl
    | succ k ih =>
      intro e he
      have er : rangeC e (-1) (k + 1) = e :: rangeC (e - 1) (-1) k := by
        unfold rangeC
        rw [List.range_succ_eq_map, List.map_cons, List.map_map]
        congr 1
        · simp
        · refine List.map_congr_left fun i _ => ?_
          show e + ((i + 1 : Nat) : Int) * (-1) = e - 1 + (i : Int) * (-1)
          omega
      rw [er]
      show thenR (f () e) (foldB f (rangeC (e - 1) (-1) k)) Sum.inl = _
      by_cases q : hd b s + e - s ≤ r
      · have eb : best b s e r = e := by unfold best; omega
        rw [eb, if_pos (by omega), hfe e, if_pos q]
        cases m_data_piece b poll num (pt packet.length s e) s (cutL packet (some s) (some e)) <;> rfl
      · have eb : best b s e r = best b s (e - 1) r := by unfold best; omega
        rw [eb, hfe e, if_neg q]
        exact ih (e - 1) (by omega)
  have hN := rgN_down (a := t) (b := s)
  unfold m_cut
  rw [guardO_some (rgOk_down (by omega) (by omega) (by omega) (by omega)), bsome, ← hf, hN, loop (t - s).toNat t (by omega)]
  constructor
  · intro h
    rw [if_neg h]
    rfl
  · intro h
    have hle : best b s t r ≤ t := by unfold best; omega
    have hfit : hd b s + best b s t r - s ≤ r := by unfold best; omega
    have hcl : (cutL packet (some s) (some (best b s t r))).length = (best b s t r).toNat - s.toNat := by
      rw [cutL_mid h0 (by omega), List.length_take, List.length_drop]
      omega
    obtain ⟨pc, e1, e2, e3⟩ := piece_some (b := b) (num := num) (q := pt packet.length s (best b s t r)) (o := s) (poll := poll) (body := cutL packet (some s) (some (best b s t r))) hb pt_b (by omega) (fun z => Classical.byContradiction fun y => z (pt_long.mpr y)) (fun z => by rw [z] at hcl; simp at hcl; omega) (by omega)
    rw [if_pos h, hfe, if_pos hfit, e1]
    refine ⟨pc, rfl, ?_, e3⟩
    rw [e2, hcl]
    unfold hd
    by_cases h9 : s = 0
    · rw [if_neg (fun z => pt_long.mp z h9), if_pos h9]; omega
    · rw [if_pos (pt_long.mpr h9), if_neg h9]; omega

theorem at_last {α : Type} {xs : List α} (h : xs ≠ []) : ∃ x, atI xs (-1) = some x ∧ x ∈ xs ∧ ixN xs.length (-1) = some (xs.length - 1) := by
  have hl := List.length_pos_iff.mpr h
  have e : ixN xs.length (-1) = some (xs.length - 1) := by
    unfold ixN
    rw [if_neg (by omega), if_pos (by omega)]
    congr 1
    omega
  refine ⟨xs[xs.length - 1]'(by omega), ?_, List.getElem_mem _, e⟩
  unfold atI
  rw [e]
  exact List.getElem?_eq_getElem (by omega)
/- what holds of a sender; P: the packets by their numbers, K: the numbers that are kept -/
structure SI (n : Nat) (s : M_Sender) (P : Int → List Int) (K : Int → Prop) : Prop where
  b : 3 ≤ s.bits ∧ s.bits ≤ 6
  D : Dct P K s.kept
  r : ∀ k, K k → s.low ≤ k ∧ k < s.next_
  l : ∀ k, K k → 1 ≤ (P k).length ∧ (P k).length ≤ 200
  q : ∀ p ∈ s.queue, 1 ≤ p.length ∧ p.length ≤ 200
  ql : s.queue.length ≤ n
  nx : 0 ≤ s.low ∧ s.low ≤ s.next_ ∧ s.next_ ≤ n
  lo : K s.low ∨ s.low = s.next_
  se : K (s.next_ - 1) → 0 ≤ s.sent ∧ s.sent ≤ (P (s.next_ - 1)).length
  ag : ∀ r ∈ s.again, K r.a ∧ 0 ≤ r.b ∧ r.b < r.c ∧ r.c ≤ (P r.a).length
  al : s.again.length ≤ 8 + n
theorem ask_raw {s : M_Sender} {P : Int → List Int} {K : Int → Prop} (S : ∀ r ∈ s.again, K r.a ∧ 0 ≤ r.b ∧ r.b < r.c ∧ r.c ≤ (P r.a).length) {k a b : Int} (h : K k) (ha : 0 ≤ a) (hb : b ≤ (P k).length) (hn : s.again.length < 1000000) : ∃ ag, m_Sender_ask s k a b = some { s with again := ag } ∧ (∀ r ∈ ag, K r.a ∧ 0 ≤ r.b ∧ r.b < r.c ∧ r.c ≤ (P r.a).length) ∧ ag.length ≤ s.again.length + 1 := by
  unfold m_Sender_ask
  have tail : ∃ ag, (Option.bind (if (decide (a < b)) = true then (Option.bind (guardO (List.length s.again < 1000000)) fun g_168 => (some { s with again := (s.again ++ [(T3.mk k a b)]) })) else (some s)) fun s_166 => (some s_166)) = some { s with again := ag } ∧ (∀ r ∈ ag, K r.a ∧ 0 ≤ r.b ∧ r.b < r.c ∧ r.c ≤ (P r.a).length) ∧ ag.length ≤ s.again.length + 1 := by
    by_cases z : a < b
    · rw [if_pos (decide_eq_true z), guardO_some hn, bsome, bsome]
      refine ⟨_, rfl, fun r hr => ?_, by simp⟩
      rcases List.mem_append.mp hr with y | y
      · exact S r y
      · have : r = ⟨k, a, b⟩ := by simpa using y
        subst this
        exact ⟨h, ha, z, hb⟩
    · rw [if_neg (by simpa using z), bsome]
      exact ⟨s.again, rfl, S, by omega⟩
  by_cases q : s.again = []
  · rw [if_neg (by rw [q]; decide), bsome, if_neg (by decide)]
    obtain ⟨ag, e, h1, h2⟩ := tail
    exact ⟨ag, by rw [e]; rfl, h1, h2⟩
  · obtain ⟨x, e1, e2, e3⟩ := at_last q
    obtain ⟨x1, x2, x3, x4⟩ := S x e2
    rw [if_pos (by cases z : s.again with | nil => exact absurd z q | cons _ _ => rfl), e1]
    by_cases c : x.a = k ∧ a ≤ x.c
    · have : (andO (Option.bind (some x) fun x_146 => some (decide ((x_146.a : Int) = k))) (Option.bind (some x) fun x_148 => some (decide (a ≤ x_148.c)))) = some true := by
        unfold andO
        rw [bsome, bsome, bsome, if_pos (decide_eq_true c.1), decide_eq_true c.2]
      rw [this, bsome, if_pos rfl, bsome, e3, bsome, lett_eq, bsome]
      refine ⟨_, rfl, fun r hr => ?_, by simp⟩
      rcases List.mem_or_eq_of_mem_set hr with y | y
      · exact S r y
      · subst y
        refine ⟨h, x2, ?_, ?_⟩
        · show x.b < max b x.c
          omega
        · show max b x.c ≤ ((P k).length : Int)
          rw [c.1] at x4
          omega
    · have : (andO (Option.bind (some x) fun x_146 => some (decide ((x_146.a : Int) = k))) (Option.bind (some x) fun x_148 => some (decide (a ≤ x_148.c)))) = some false := by
        unfold andO
        rw [bsome, bsome, bsome]
        by_cases y : x.a = k
        · rw [if_pos (decide_eq_true y)]
          congr 1
          simp only [decide_eq_false_iff_not]
          exact fun z => c ⟨y, z⟩
        · rw [if_neg (by simpa using y)]
      rw [this, bsome, if_neg (by decide)]
      obtain ⟨ag, e, h1, h2⟩ := tail
      exact ⟨ag, by rw [e]; rfl, h1, h2⟩
/- the choice of a sender -/
def CH (s : M_Sender) (P : Int → List Int) (K : Int → Prop) (x : T4 (List Int) Int Int Int) : Prop :=
  (0 ≤ x.c ∧ x.c < x.d ∧ x.d ≤ x.a.length ∧ x.a.length ≤ 200) ∧
  ((∃ rest, s.again = ⟨x.b, x.c, x.d⟩ :: rest ∧ K x.b ∧ x.a = P x.b) ∨ (s.again = [] ∧ K x.b ∧ x.b = s.next_ - 1 ∧ x.a = P x.b ∧ x.d = x.a.length ∧ x.c = s.sent) ∨
    (s.again = [] ∧ x.b = s.next_ ∧ (∃ rest, s.queue = x.a :: rest) ∧ x.c = 0 ∧ x.d = x.a.length))
namespace SI
variable {n : Nat} {s : M_Sender} {P : Int → List Int} {K : Int → Prop}
theorem dec (S : SI n s P K) (k : Int) : (dHas s.kept k = true ∧ K k) ∨ (dHas s.kept k = false ∧ ¬ K k) := by
  cases e : dHas s.kept k with
  | true => exact .inl ⟨rfl, (S.D.has k).mp e⟩
  | false => exact .inr ⟨rfl, fun h => by rw [(S.D.has k).mpr h] at e; cases e⟩
theorem kl (S : SI n s P K) : s.kept.length ≤ n := S.D.len (a := 0) fun k h => by have := S.r k h; have := S.nx; omega
theorem mono {m : Nat} (S : SI n s P K) (h : n ≤ m) : SI m s P K := ⟨S.b, S.D, S.r, S.l, S.q, Nat.le_trans S.ql h, by have := S.nx; omega, S.lo, S.se, S.ag, by have := S.al; omega⟩
theorem silent (S : SI n s P K) (k : Int) : SI n { s with silent := k } P K := ⟨S.b, S.D, S.r, S.l, S.q, S.ql, S.nx, S.lo, S.se, S.ag, S.al⟩
theorem begun (S : SI n s P K) : ∃ b, m_Sender_is_begun s = some b ∧ (b = true → K (s.next_ - 1) ∧ s.sent < (P (s.next_ - 1)).length) := by
  unfold m_Sender_is_begun
  rw [lett_eq]
  rcases S.dec (s.next_ - 1) with ⟨e, h⟩ | ⟨e, h⟩
  · rw [if_pos e, S.D.get h, bsome, bsome]
    exact ⟨_, rfl, fun z => ⟨h, of_decide_eq_true z⟩⟩
  · rw [if_neg (by rw [e]; decide), bsome]
    exact ⟨_, rfl, fun z => by cases z⟩
theorem work (S : SI n s P K) : ∃ b, m_Sender_has_work s = some b := by
  obtain ⟨b, e, _⟩ := S.begun
  unfold m_Sender_has_work
  by_cases q : decide (0 < ((s.again.length : Nat) : Int)) = true
  · rw [if_pos q, bsome]; exact ⟨_, rfl⟩
  · rw [if_neg q, e]
    cases b <;> exact ⟨_, rfl⟩
theorem choice (S : SI n s P K) : ∃ c, m_Sender_choice s = some c ∧ ∀ x, c = some x → CH s P K x := by
  unfold m_Sender_choice
  cases ea : s.again with
  | cons r rest =>
    obtain ⟨h1, h2, h3, h4⟩ := S.ag r (by rw [ea]; simp)
    rw [if_pos (by rfl), show atI (r :: rest) 0 = some r by rw [atI_nn (Int.le_refl 0)]; rfl, bsome, S.D.get h1, bsome]
    refine ⟨_, rfl, fun x hx => ?_⟩
    cases hx
    have := S.l _ h1
    exact ⟨⟨h2, h3, h4, this.2⟩, .inl ⟨rest, ea, h1, rfl⟩⟩
  | nil =>
    rw [if_neg (by decide)]
    obtain ⟨b, e, hb⟩ := S.begun
    rw [e, bsome]
    cases b with
    | true =>
      obtain ⟨h1, h2⟩ := hb rfl
      rw [if_pos rfl, S.D.get h1, bsome]
      refine ⟨_, rfl, fun x hx => ?_⟩
      cases hx
      have := S.l _ h1
      have := S.se h1
      exact ⟨⟨this.1, h2, Int.le_refl _, by show (P (s.next_ - 1)).length ≤ 200; omega⟩, .inr (.inl ⟨ea, h1, rfl, rfl, rfl, rfl⟩)⟩
    | false =>
      rw [if_neg (by decide)]
      unfold m_Sender_can_begin
      rw [bsome]
      cases eq : s.queue with
      | nil => rw [if_neg (by simp)]; exact ⟨_, rfl, fun x hx => by cases hx⟩
      | cons p rest =>
        by_cases z : ((decide (0 < (((p :: rest).length : Nat) : Int))) && (decide (s.next_ < (s.low + s.window)))) = true
        · rw [if_pos z, show atI (p :: rest) 0 = some p by rw [atI_nn (Int.le_refl 0)]; rfl, bsome]
          refine ⟨_, rfl, fun x hx => ?_⟩
          cases hx
          have := S.q p (by rw [eq]; simp)
          exact ⟨⟨Int.le_refl 0, by show (0 : Int) < p.length; omega, Int.le_refl _, this.2⟩, .inr (.inr ⟨ea, rfl, ⟨rest, eq⟩, rfl, rfl⟩)⟩
        · rw [if_neg z]; exact ⟨_, rfl, fun x hx => by cases hx⟩
theorem fit (S : SI n s P K) (r : Int) : ∃ f, m_Sender_fitting s r = some f ∧ ∀ x e, f = some (x, e) → CH s P K x ∧ e = best s.bits x.c x.d r ∧ x.c < e := by
  obtain ⟨c, ec, hc⟩ := S.choice
  unfold m_Sender_fitting
  rw [ec, bsome]
  cases c with
  | none => rw [if_pos (by rfl)]; exact ⟨_, rfl, fun x e h => by cases h⟩
  | some x =>
    obtain ⟨⟨h1, h2, h3, h4⟩, h5⟩ := hc x rfl
    obtain ⟨c1, c2⟩ := cut_some (num := x.b) (r := r) (poll := false) S.b h1 (Int.le_of_lt h2) h3 h4
    rw [if_neg (by simp), bsome]
    by_cases q : x.c < best s.bits x.c x.d r
    · obtain ⟨pc, e1, _, _⟩ := c2 q
      rw [e1, bsome, if_neg (by simp), bsome, bsome]
      refine ⟨_, rfl, fun y e h => ?_⟩
      cases h
      exact ⟨⟨⟨h1, h2, h3, h4⟩, h5⟩, rfl, q⟩
    · rw [c1 q, bsome, if_pos (by rfl)]
      exact ⟨_, rfl, fun x e h => by cases h⟩
theorem sendI (S : SI n s P K) (r : Int) (hn : n ≤ 1000) : ∃ o s' P' K', m_Sender_send s r = some (o, s') ∧ SI (n + 1) s' P' K' ∧ ∀ f, m_Sender_fitting s r = some f → Option.isNone o = Option.isNone f := by
  obtain ⟨f, ef, hf⟩ := S.fit r
  unfold m_Sender_send
  rw [ef, bsome]
  cases f with
  | none =>
    rw [if_pos (by rfl)]
    exact ⟨_, s, P, K, rfl, S.mono (by omega), fun f h => by cases h; rfl⟩
  | some xe =>
    obtain ⟨x, e⟩ := xe
    obtain ⟨⟨⟨h1, h2, h3, h4⟩, h5⟩, he, hlt⟩ := hf x e rfl
    have hed : e ≤ x.d := by rw [he]; unfold best; omega
    have qlt : s.queue.length ≤ n + 1 := Nat.le_succ_of_le S.ql
    have nxt : 0 ≤ s.low ∧ s.low ≤ s.next_ ∧ s.next_ ≤ ((n + 1 : Nat) : Int) := by have := S.nx; omega
    rw [if_neg (by simp), bsome]
    dsimp only
    -- what is left to be shown of the state behind
    have fin : ∀ s' P' K', s'.bits = s.bits → SI (n + 1) s' P' K' → ∃ o s2 P2 K2, (Option.bind (some s') fun s_120 => (Option.bind (m_Sender_has_work s_120) fun v_134 => (Option.bind (m_cut s_120.bits (!v_134) x.b x.a x.c e r) fun v_135 => (Option.bind (v_135) fun u_136 => (some ((some u_136.1 : Option (List Int)), s_120)))))) = some (o, s2) ∧ SI (n + 1) s2 P2 K2 ∧ ∀ f, some (some (x, e)) = some f → Option.isNone o = Option.isNone f := fun s' P' K' hb S' => by
      obtain ⟨w, ew⟩ := S'.work
      have hb2 : best s'.bits x.c e r = e := by rw [hb, he]; unfold best; omega
      obtain ⟨pc, e1, _, _⟩ := (cut_some (num := x.b) (r := r) (poll := !w) (packet := x.a) (s := x.c) (t := e) S'.b h1 (by omega) (by omega) h4).2 (by rw [hb2]; exact hlt)
      rw [bsome, ew, bsome, e1, bsome, bsome]
      exact ⟨_, s', P', K', rfl, S', fun f h => by cases h; rfl⟩
    rcases h5 with ⟨rest, ea, hk, ex⟩ | ⟨ea, hk, eb, ex, ed, es⟩ | ⟨ea, eb, ⟨rest, eq⟩, ec, ed⟩
    · have hr : cutL s.again (some 1) none = rest := by rw [ea, cutL_drop (by decide)]; rfl
      have hrl : rest.length + 1 ≤ 8 + n := by have := S.al; rw [ea] at this; simpa using this
      have hag : ∀ q ∈ rest, K q.a ∧ 0 ≤ q.b ∧ q.b < q.c ∧ q.c ≤ (P q.a).length := fun q hq => S.ag q (by rw [ea]; simp [hq])
      rw [if_pos (by rw [ea]; rfl), hr]
      by_cases z : e < x.d
      · rw [if_pos (decide_eq_true z), guardO_some (by simp; omega), bsome, bsome]
        refine fin { s with again := [⟨x.b, e, x.d⟩] ++ rest } P K rfl ⟨S.b, S.D, S.r, S.l, S.q, qlt, nxt, S.lo, S.se, fun q hq => ?_, by simp; omega⟩
        rcases List.mem_cons.mp hq with y | y
        · subst y
          exact ⟨hk, by show 0 ≤ e; omega, z, by rw [← ex]; exact h3⟩
        · exact hag q y
      · rw [if_neg (by simpa using z), bsome]
        exact fin { s with again := rest } P K rfl ⟨S.b, S.D, S.r, S.l, S.q, qlt, nxt, S.lo, S.se, hag, by show rest.length ≤ 8 + (n + 1); omega⟩
    · rw [if_neg (by rw [ea]; decide), if_neg (by simp; omega), bsome]
      refine fin { s with sent := e } P K rfl ⟨S.b, S.D, S.r, S.l, S.q, qlt, nxt, S.lo, fun h => ⟨by show 0 ≤ e; omega, by show e ≤ _; rw [← eb, ← ex]; omega⟩, S.ag, by have := S.al; show s.again.length ≤ 8 + (n + 1); omega⟩
    · have hr : cutL s.queue (some 1) none = rest := by rw [eq, cutL_drop (by decide)]; rfl
      have hkl := S.kl
      rw [eb] at fin
      have nk : ¬ K s.next_ := fun h => by have := S.r _ h; omega
      rw [if_neg (by rw [ea]; decide), if_pos (decide_eq_true eb), guardO_some (by omega), bsome, bsome, hr, eb]
      dsimp only
      have hql : rest.length + 1 ≤ n := by have := S.ql; rw [eq] at this; simpa using this
      have hnx := S.nx
      have hq := S.q x.a (by rw [eq]; simp)
      refine fin { s with next_ := s.next_ + 1, queue := rest, kept := dPut s.kept s.next_ x.a, sent := e } (fun k => if k = s.next_ then x.a else P k) (fun k => K k ∨ k = s.next_) rfl ⟨S.b, ?_, fun k h => ?_, fun k h => ?_, fun p hp => S.q p (by rw [eq]; simp [hp]), by show rest.length ≤ n + 1; omega, ⟨hnx.1, by show s.low ≤ s.next_ + 1; omega, by show s.next_ + 1 ≤ ((n + 1 : Nat) : Int); omega⟩, .inl (S.lo.elim .inl fun z => .inr z), fun h => ⟨by show 0 ≤ e; omega, ?_⟩, fun q hq => ?_, by have := S.al; show s.again.length ≤ 8 + (n + 1); omega⟩
      · exact (S.D.congr (fun k h => by rw [if_neg (fun z : k = s.next_ => nk (by rw [← z]; exact h))]) fun _ => Iff.rfl : Dct (fun k => if k = s.next_ then x.a else P k) K s.kept).put nk (by rw [if_pos rfl])
      · show s.low ≤ k ∧ k < s.next_ + 1
        rcases h with h | h
        · have := S.r k h; omega
        · omega
      · show 1 ≤ (if k = s.next_ then x.a else P k).length ∧ (if k = s.next_ then x.a else P k).length ≤ 200
        by_cases z : k = s.next_
        · rw [if_pos z]; exact hq
        · rw [if_neg z]; exact S.l k (h.resolve_right z)
      · show e ≤ _
        dsimp only
        rw [if_pos (by omega)]
        omega
      · rw [show ({ s with next_ := s.next_ + 1, queue := rest, kept := dPut s.kept s.next_ x.a, sent := e } : M_Sender).again = s.again from rfl, ea] at hq
        cases hq
theorem lowK (S : SI n s P K) (h : s.kept.length ≠ 0) : K s.low := by
  rcases S.lo with z | z
  · exact z
  · cases ek : s.kept with
    | nil => rw [ek] at h; exact absurd rfl h
    | cons a d =>
      have : K a.1 := S.D.mem.mp (by rw [ek]; simp [dKeys])
      have := S.r _ this
      omega
theorem sentof (S : SI n s P K) {k : Int} (h : K k) : ∃ v, m_Sender_sent_of s k = some v ∧ 0 ≤ v ∧ v ≤ (P k).length := by
  unfold m_Sender_sent_of
  by_cases q : k = s.next_ - 1
  · rw [if_pos (decide_eq_true q)]
    have := S.se (q ▸ h)
    exact ⟨_, rfl, this.1, by rw [q]; exact this.2⟩
  · rw [if_neg (by simpa using q), S.D.get h, bsome]
    exact ⟨_, rfl, by omega, Int.le_refl _⟩
theorem ask (S : SI n s P K) {k a b : Int} (h : K k) (ha : 0 ≤ a) (hb : b ≤ (P k).length) (hn : s.again.length < 1000000) : ∃ ag, m_Sender_ask s k a b = some { s with again := ag } ∧ (∀ r ∈ ag, K r.a ∧ 0 ≤ r.b ∧ r.b < r.c ∧ r.c ≤ (P r.a).length) ∧ ag.length ≤ s.again.length + 1 := ask_raw S.ag h ha hb hn
theorem tickI (S : SI n s P K) (hn : n ≤ 1000) : ∃ s', m_Sender_tick s = some s' ∧ SI (n + 1) s' P K := by
  unfold m_Sender_tick mb_Sender_tick
  obtain ⟨w, ew⟩ := S.work
  have hal := S.al
  by_cases q : s.kept.length = 0
  · rw [if_pos (by simp [q]), bsome, if_pos rfl]
    exact ⟨_, rfl, (S.silent 0).mono (by omega)⟩
  · rw [if_neg (by simp; exact fun e => q (by rw [e]; rfl)), ew, bsome, bsome]
    cases w with
    | true => rw [if_pos rfl]; exact ⟨_, rfl, (S.silent 0).mono (by omega)⟩
    | false =>
      rw [if_neg (by decide)]
      by_cases z : 4 ≤ s.silent + 1
      · obtain ⟨v, ev, v1, v2⟩ := (S.silent 0).sentof (k := s.low) (S.lowK q)
        obtain ⟨ag, ea, h1, h2⟩ := (S.silent 0).ask (k := s.low) (a := 0) (b := v) (S.lowK q) (Int.le_refl 0) v2 (by show s.again.length < 1000000; omega)
        have h2 : ag.length ≤ s.again.length + 1 := h2
        rw [if_pos (decide_eq_true z), ev, bsome, ea, bsome, bsome]
        exact ⟨_, rfl, S.b, S.D, S.r, S.l, S.q, by have := S.ql; show s.queue.length ≤ n + 1; omega, by have := S.nx; show 0 ≤ s.low ∧ s.low ≤ s.next_ ∧ s.next_ ≤ ((n + 1 : Nat) : Int); omega, S.lo, S.se, h1, by show ag.length ≤ 8 + (n + 1); omega⟩
      · rw [if_neg (by simpa using z), bsome]
        exact ⟨_, rfl, (S.silent _).mono (by omega)⟩
theorem unc (S : SI n s P K) (hn : n ≤ 1000) : ∃ u, m_Sender_unconfirmed s = some u := by
  have := S.kl
  unfold m_Sender_unconfirmed
  rw [guardO_some (by omega), bsome, S.D.srt (by omega), bsome]
  exact ⟨_, rfl⟩
theorem wait (S : SI n s P K) (hn : n ≤ 1000) : m_Sender_waiting s = some s.queue := by
  have := S.ql
  unfold m_Sender_waiting
  have e : mapO (fun p : List Int => some p) s.queue = some s.queue := (mapO_some (g := id) (by omega) fun _ _ => rfl).trans (by rw [List.map_id])
  rw [e]
  rfl
theorem putI (S : SI n s P K) (hn : n ≤ 1000) {p : List Int} (h1 : 1 ≤ p.length) (h2 : p.length ≤ 200) (hb : ∀ x ∈ p, 0 ≤ x ∧ x ≤ 255) : ∃ s', m_Sender_put s p = some s' ∧ SI (n + 1) s' P K := by
  have hql := S.ql
  have ei : m_is_packet p = some true := by
    unfold m_is_packet
    rw [if_neg (by simp; omega), thenR_r (foldB_unit fun x hx => by
      have := hb x hx
      rw [if_neg (by simp; omega)])]
  unfold m_Sender_put
  rw [ei, bsome, if_neg (by decide), bsome, guardO_some (by omega), bsome]
  refine ⟨_, rfl, S.b, S.D, S.r, S.l, fun q hq => ?_, by simp; omega, by have := S.nx; show 0 ≤ s.low ∧ s.low ≤ s.next_ ∧ s.next_ ≤ ((n + 1 : Nat) : Int); omega, S.lo, S.se, S.ag, by have := S.al; show s.again.length ≤ 8 + (n + 1); omega⟩
  rcases List.mem_append.mp hq with y | y
  · exact S.q q y
  · have : q = p := by simpa using y
    subst this
    exact ⟨h1, h2⟩
theorem trueI (S : SI n s P K) (k : Int) : m_Sender_true_number s k = some (s.low + (k - s.low) % 2 ^ s.bits.toNat) := by
  have hb := S.b
  have hp := pow_b hb
  unfold m_Sender_true_number
  rw [guardO_some ⟨by omega, by omega, by decide⟩, bsome, Int.one_mul, modM_some (by omega), bsome]
theorem pop_fold : ∀ (ks : List Int) (s : M_Sender) (K : Int → Prop), Dct P K s.kept → ks.Nodup → (∀ k ∈ ks, K k) →
    ∃ d', List.foldlM (fun (s_182 : M_Sender) (number_183 : Int) => (Option.bind (dGet s_182.kept number_183) fun d_187 => (some { s_182 with kept := (dDel s_182.kept number_183) }))) s ks = some { s with kept := d' } ∧ Dct P (fun k => K k ∧ k ∉ ks) d'
  | [], s, K, D, _, _ => ⟨s.kept, rfl, D.congr (fun _ _ => rfl) fun k => by simp⟩
  | c :: ks, s, K, D, nd, h => by
    obtain ⟨n1, n2⟩ := List.nodup_cons.mp nd
    rw [List.foldlM_cons, D.get (h c (by simp))]
    obtain ⟨d', e, D'⟩ := pop_fold ks { s with kept := dDel s.kept c } (fun k => K k ∧ k ≠ c) (D.del c) n2 fun k hk => ⟨h k (by simp [hk]), fun z => n1 (z ▸ hk)⟩
    refine ⟨d', e, D'.congr (fun _ _ => rfl) fun k => ?_⟩
    simp [and_assoc]
theorem statusI (S : SI n s P K) (hn : n ≤ 1000) (upto : Int) {missing : List (T3 Int Int Int)} (hl : missing.length ≤ 8) (hm : ∀ r ∈ missing, (0 ≤ r.b ∧ r.b < 1000) ∧ (0 ≤ r.c ∧ r.c < 1000)) :
    ∃ o s' K', m_Sender_take_status s upto missing = some (o, s') ∧ SI (n + 1) s' P K' := by
  have hb := S.b
  have hp := pow_b hb
  have hnx := S.nx
  have hkl := S.kl
  unfold m_Sender_take_status
  rw [S.trueI, bsome]
  obtain ⟨v, hv⟩ : ∃ v, v = s.low + (upto - s.low) % 2 ^ s.bits.toNat := ⟨_, rfl⟩
  rw [← hv]
  by_cases q : s.next_ < v
  · rw [if_pos (decide_eq_true q)]
    exact ⟨_, s, K, rfl, S.mono (by omega)⟩
  · rw [if_neg (by simpa using q)]
    obtain ⟨g, hg⟩ : ∃ g : T3 Int Int Int → T3 Int Int Int, g = fun q => T3.mk (s.low + (q.a - s.low) % 2 ^ s.bits.toNat) q.b q.c := ⟨_, rfl⟩
    rw [mapO_some (g := g) (by omega) (fun x _ => by rw [(S.silent 0).trueI, bsome, hg]), bsome, mapO_some (g := fun r : T3 Int Int Int => (r.a, true)) (by rw [List.length_map]; omega) (fun _ _ => rfl), bsome, guardO_some (by omega), bsome]
    obtain ⟨t, ht⟩ : ∃ t : Int → Bool, t = fun k => (decide (k < v)) && (!dHas (dOf ((missing.map g).map fun r => (r.a, true))) k) := ⟨_, rfl⟩
    rw [fltO_id (p := t) (by rw [Dct.slen]; omega) (fun x _ => by rw [ht]), bsome]
    obtain ⟨d', e1, D'⟩ := pop_fold ((srtI (dKeys s.kept)).filter t) { s with silent := 0 } K S.D ((((srtI_perm _).nodup_iff).mpr S.D.nd).filter _) (fun k hk => S.D.smem.mp (List.mem_filter.mp hk).1)
    rw [e1, bsome, guardO_some ⟨by simp; omega, fun x hx => by
      obtain ⟨y, hy, e⟩ := List.mem_map.mp hx
      subst e
      have := hm y hy
      have a1 := Int.emod_nonneg (y.a - s.low) (show (2 : Int) ^ s.bits.toNat ≠ 0 by omega)
      have a2 := Int.emod_lt_of_pos (y.a - s.low) (show (0 : Int) < 2 ^ s.bits.toNat by omega)
      rw [hg]
      refine ⟨⟨?_, ?_⟩, ⟨this.1.1, ?_⟩, ⟨this.2.1, ?_⟩⟩
      · show 0 ≤ s.low + (y.a - s.low) % 2 ^ s.bits.toNat
        omega
      · show s.low + (y.a - s.low) % 2 ^ s.bits.toNat < 2 ^ 62
        omega
      · show y.b < 2 ^ 62
        omega
      · show y.c < 2 ^ 62
        omega⟩, bsome]
    obtain ⟨K', hK⟩ : ∃ K' : Int → Prop, K' = fun k => K k ∧ k ∉ (srtI (dKeys s.kept)).filter t := ⟨_, rfl⟩
    rw [← hK] at D'
    have sub : ∀ k, K' k → K k := fun k h => by rw [hK] at h; exact h.1
    -- the state between the pops and the asks
    have S1 : ∀ ag : List (T3 Int Int Int), (∀ r ∈ ag, K' r.a ∧ 0 ≤ r.b ∧ r.b < r.c ∧ r.c ≤ (P r.a).length) → ag.length ≤ 8 + (n + 1) → ∀ low : Int, (∀ k, K' k → low ≤ k) → 0 ≤ low → low ≤ s.next_ → (K' low ∨ low = s.next_) → SI (n + 1) { s with silent := 0, kept := d', again := ag, low := low } P K' := fun ag h1 h2 low h3 h4 h5 h6 =>
      ⟨S.b, D', fun k h => ⟨h3 k h, (S.r k (sub k h)).2⟩, fun k h => S.l k (sub k h), S.q, by have := S.ql; show s.queue.length ≤ n + 1; omega, ⟨h4, h5, by show s.next_ ≤ ((n + 1 : Nat) : Int); omega⟩, h6, fun h => S.se (sub _ h), h1, h2⟩
    obtain ⟨s2, e2, ⟨ag, es, g1, g2⟩⟩ := foldM_idx (f := fun (s_190 : M_Sender) (number_191 : (T3 Int Int Int)) =>
  (Option.bind (if ((dHas s_190.kept number_191.a) && (decide (number_191.a < v))) = true then
  (Option.bind (m_Sender_sent_of s_190 number_191.a) fun v_204 =>
  (Option.bind (m_Sender_ask s_190 number_191.a number_191.b (min (number_191.c + 1) v_204)) fun v_205 =>
  (some v_205))) else
  (some s_190)) fun s_203 =>
  (some s_203))) (fun i z => ∃ ag, z = { s with silent := 0, kept := d', again := ag } ∧ (∀ r ∈ ag, K' r.a ∧ 0 ≤ r.b ∧ r.b < r.c ∧ r.c ≤ (P r.a).length) ∧ ag.length ≤ i) (xs := srt3 (missing.map g)) (n := 0) (s := { s with silent := 0, kept := d', again := [] }) ⟨[], rfl, fun r hr => (by cases hr), Nat.le_refl 0⟩ (fun i x z hi hz => by
      obtain ⟨ag, rfl, g1, g2⟩ := hz
      rw [Nat.zero_add] at g2 ⊢
      have hil : i < missing.length := by
        have := (List.getElem?_eq_some_iff.mp hi).1
        rw [(srt3_perm _).length_eq, List.length_map] at this
        exact this
      have hx : x ∈ missing.map g := (srt3_perm _).mem_iff.mp (List.mem_of_getElem? hi)
      obtain ⟨y, hy, ey⟩ := List.mem_map.mp hx
      have hy2 := hm y hy
      have hxb : x.b = y.b := by rw [← ey, hg]
      cases ed : dHas d' x.a with
      | false =>
        rw [if_neg (by simp [ed]), bsome]
        exact ⟨_, rfl, ag, rfl, g1, by omega⟩
      | true =>
        have hkx : K' x.a := (D'.has x.a).mp ed
        by_cases y2 : x.a < v
        · -- low plays no part here
          have hlow : ∀ k, K' k → s.low ≤ k := fun k h => (S.r k (sub k h)).1
          have so : ∃ w, m_Sender_sent_of ({ s with silent := 0, kept := d', again := ag } : M_Sender) x.a = some w ∧ 0 ≤ w ∧ w ≤ (P x.a).length := by
            unfold m_Sender_sent_of
            by_cases c : x.a = s.next_ - 1
            · rw [if_pos (decide_eq_true c)]
              have := S.se (c ▸ sub _ hkx)
              exact ⟨_, rfl, this.1, by rw [c]; exact this.2⟩
            · rw [if_neg (by simpa using c)]
              show ∃ w, (Option.bind (dGet d' x.a) _) = _ ∧ _
              rw [D'.get hkx, bsome]
              exact ⟨_, rfl, by omega, Int.le_refl _⟩
          obtain ⟨w, ew, w1, w2⟩ := so
          obtain ⟨ag', ea, g3, g4⟩ := ask_raw (s := ({ s with silent := 0, kept := d', again := ag } : M_Sender)) (P := P) (K := K') g1 (k := x.a) (a := x.b) (b := min (x.c + 1) w) hkx (by rw [hxb]; exact hy2.1.1) (by omega) (by show ag.length < 1000000; omega)
          have g4 : ag'.length ≤ ag.length + 1 := g4
          rw [if_pos (by simp [ed, y2]), ew, bsome, ea, bsome, bsome]
          exact ⟨_, rfl, ag', rfl, g3, by omega⟩
        · rw [if_neg (by simp [y2]), bsome]
          exact ⟨_, rfl, ag, rfl, g1, by omega⟩)
    have e2 : List.foldlM _ ({ ({ s with silent := 0, kept := d' } : M_Sender) with again := [] } : M_Sender) (srt3 (missing.map g)) = some s2 := e2
    rw [e2, bsome, lett_eq]
    have g2 : ag.length ≤ 8 := by rw [Nat.zero_add, (srt3_perm _).length_eq, List.length_map] at g2; omega
    subst es
    refine ⟨_, _, K', rfl, ?_⟩
    have fin := fun low h1 h2 h3 h4 => S1 ag g1 (by omega) low h1 h2 h3 h4
    show SI (n + 1) { s with silent := 0, kept := d', again := ag, low := (minI (dKeys d')).getD s.next_ } P K'
    cases ek : dKeys d' with
    | nil =>
      have no : ∀ k, ¬ K' k := fun k h => by have := D'.mem.mpr h; rw [ek] at this; cases this
      exact fin s.next_ (fun k h => absurd h (no k)) (by omega) (Int.le_refl _) (.inr rfl)
    | cons x xs =>
      obtain ⟨m, em, m1, m2⟩ := minI_some x xs
      rw [em]
      rw [← ek] at m1 m2
      have hm' := D'.mem.mp m1
      have := S.r m (sub m hm')
      exact fin m (fun k h => m2 k (D'.mem.mpr h)) (by show 0 ≤ m; omega) (by show m ≤ s.next_; omega) (.inl hm')
end SI

theorem many_some (ns : List Int) : ∃ v, m_l_many ns 20 60 = some v ∧ 0 ≤ v ∧ v ≤ 60 := by
  unfold m_l_many
  by_cases q : (0 : Int) < (ns.length : Int)
  · obtain ⟨x, e, _⟩ := atI_lt (xs := ns) (Int.le_refl 0) q
    rw [if_pos (decide_eq_true q), e, bsome, bsome]
    by_cases q2 : decide (x / 1009 % 5 = 1) = true
    · rw [if_pos q2]; exact ⟨60, rfl, by decide, by decide⟩
    · rw [if_neg q2]; exact ⟨20, rfl, by decide, by decide⟩
  · rw [if_neg (by simpa using q), bsome, if_neg (by decide)]
    exact ⟨20, rfl, by decide, by decide⟩
theorem both_some {n : Nat} {s : M_Sender} {P : Int → List Int} {K : Int → Prop} (S : SI n s P K) (hn : n ≤ 1000) {d0 d1 d2 d3 d4 d5 : Int} (r0 : 0 ≤ d0 ∧ d0 < 8) (r1 : 0 ≤ d1 ∧ d1 < 256) (r2 : 0 ≤ d2 ∧ d2 < 41) (r3 : 0 ≤ d3 ∧ d3 < 41) (r4 : 0 ≤ d4 ∧ d4 < 6) (r5 : 0 ≤ d5 ∧ d5 < 64) :
    ∃ s' P' K', m_l_both s s [d0, d1, d2, d3, d4, d5] = some (true, s', s') ∧ SI (n + 1) s' P' K' := by
  unfold m_l_both
  rw [show atI [d0, d1, d2, d3, d4, d5] 0 = some d0 from rfl, show atI [d0, d1, d2, d3, d4, d5] 1 = some d1 from rfl, show atI [d0, d1, d2, d3, d4, d5] 2 = some d2 from rfl, show atI [d0, d1, d2, d3, d4, d5] 3 = some d3 from rfl, show atI [d0, d1, d2, d3, d4, d5] 4 = some d4 from rfl, show atI [d0, d1, d2, d3, d4, d5] 5 = some d5 from rfl]
  simp only [bsome]
  by_cases c1 : d0 < 2
  · rw [if_pos (decide_eq_true c1), guardO_some (by omega), bsome, mapO_some (g := fun k => (d1 + 7 * k) % 256) (by rw [rangeI_len]; omega) (fun _ _ => rfl), bsome]
    obtain ⟨s', e, S'⟩ := S.putI hn (p := (rangeI 0 (Int.toNat (1 + d2 % 30))).map fun k => (d1 + 7 * k) % 256) (by rw [List.length_map, rangeI_len]; omega) (by rw [List.length_map, rangeI_len]; omega) (fun x hx => by
      obtain ⟨k, _, e⟩ := List.mem_map.mp hx
      omega)
    rw [e, bsome, bsome]
    exact ⟨s', P, K, rfl, S'⟩
  · rw [if_neg (by simpa using c1)]
    by_cases c2 : d0 < 6
    · rw [if_pos (decide_eq_true c2)]
      obtain ⟨f, ef, _⟩ := S.fit d2
      obtain ⟨f', ef', _⟩ := S.fit d3
      obtain ⟨o, s', P', K', es, S', ho⟩ := S.sendI d2 hn
      have e1 : m_Sender_has_piece s d2 = some (!(Option.isNone f)) := by unfold m_Sender_has_piece; rw [ef, bsome]
      have e2 : m_Sender_has_piece s d3 = some (!(Option.isNone f')) := by unfold m_Sender_has_piece; rw [ef', bsome]
      have e3 := ho f ef
      rw [e1, bsome, e2, bsome, es, bsome]
      dsimp only
      rw [if_pos trivial, if_pos (by rw [e3]; simp), bsome]
      exact ⟨s', P', K', by simp, S'⟩
    · rw [if_neg (by simpa using c2)]
      by_cases c3 : d0 = 6
      · rw [if_pos (decide_eq_true c3), lett_eq, lett_eq]
        have hm : ∀ r ∈ cutL [(T3.mk (d1 % 8) (d3 % 9) (d3 % 9 + d4))] none (some (d4 % 2)), r = T3.mk (d1 % 8) (d3 % 9) (d3 % 9 + d4) := fun r hr => by
          rw [cutL_take (by omega)] at hr
          simpa using List.mem_of_mem_take hr
        obtain ⟨o, s', K', e, S'⟩ := S.statusI hn (d5 % 8) (missing := cutL [(T3.mk (d1 % 8) (d3 % 9) (d3 % 9 + d4))] none (some (d4 % 2))) (by
          rw [cutL_take (by omega), List.length_take]
          simp only [List.length_cons, List.length_nil]
          omega) (fun r hr => by
          rw [hm r hr]
          dsimp only
          omega)
        rw [e, bsome, bsome]
        exact ⟨s', P, K', by simp, S'⟩
      · rw [if_neg (by simpa using c3)]
        obtain ⟨s', e, S'⟩ := S.tickI hn
        rw [e, bsome, bsome]
        exact ⟨s', P, K, rfl, S'⟩
theorem law_true (ns : List Int) (h : ns.length ≤ 63) : m_law ns = some true := by
  unfold m_law
  obtain ⟨c0, hc0⟩ := cell_some ns 0 (by decide)
  obtain ⟨mv, hm, m0, m1⟩ := many_some ns
  have hb : 3 ≤ 3 + c0 % 4 ∧ 3 + c0 % 4 ≤ 6 := by omega
  obtain ⟨b, eb⟩ : ∃ b, b = 3 + c0 % 4 := ⟨_, rfl⟩
  rw [← eb] at hb
  have hi : m_Sender___init__ b (1 + c0 / 4 % 4) = some (M_Sender.mk b (1 + c0 / 4 % 4) 0 0 [] [] 0 [] 0) := by
    unfold m_Sender___init__
    have hp : (4 : Int) ≤ 2 ^ (b - 1).toNat := by
      have : b = 3 ∨ b = 4 ∨ b = 5 ∨ b = 6 := by omega
      rcases this with e | e | e | e <;> subst e <;> decide
    rw [if_neg (by simp; omega), guardO_some ⟨by omega, by omega, by decide⟩, bsome, decide_eq_true (show 1 ≤ 1 + c0 / 4 % 4 by omega), decide_eq_true (show 1 + c0 / 4 % 4 ≤ 1 * 2 ^ (b - 1).toNat by omega), bsome, if_neg (by decide), bsome]
  rw [hc0, bsome, lett_eq, bsome, lett_eq, ← eb, hi, bsome, bsome, hm, bsome, guardO_some (by omega), bsome]
  refine thenR_idx (fun n s => s.1 = s.2 ∧ ∃ P K, SI n s.1 P K) ⟨rfl, fun _ => [], fun _ => False, hb, Dct.empty, fun k h => h.elim, fun k h => h.elim, fun p hp => (by cases hp), Nat.le_refl 0, ⟨Int.le_refl 0, Int.le_refl 0, Int.le_refl 0⟩, .inr rfl, fun h => h.elim, fun r hr => (by cases hr), Nat.zero_le _⟩ (fun n k s hk hs => ?_) (fun s hs => rfl)
  obtain ⟨e12, P, K, S⟩ := hs
  obtain ⟨s1, s2⟩ := s
  have e12 : s1 = s2 := e12
  subst e12
  have hn : n < 60 := by
    have := (List.getElem?_eq_some_iff.mp hk).1
    rw [rangeI_len] at this
    omega
  have hk0 := mem_rangeI.mp (List.mem_of_getElem? hk)
  obtain ⟨v, hv⟩ := cell_some ns k (by omega)
  obtain ⟨ds, hd, fd⟩ := digits_some (v + 5 * k) [8, 256, 41, 41, 6, 64] (by simp) (by simp)
  rw [hv, bsome, hd, bsome]
  cases fd with | cons r0 fd => cases fd with | cons r1 fd => cases fd with | cons r2 fd => cases fd with | cons r3 fd => cases fd with | cons r4 fd => cases fd with | cons r5 fd =>
  cases fd
  obtain ⟨s', P', K', e, S'⟩ := both_some S (by omega) r0 r1 r2 r3 r4 r5
  obtain ⟨u, eu⟩ := S'.unc (by omega)
  have ew := S'.wait (by omega)
  dsimp only
  rw [e, bsome, if_neg (by simp), eu, bsome, bsome, if_neg (by simp), ew, bsome, bsome, bsome, if_neg (by simp)]
  unfold m_Sender_is_idle
  rw [bsome, bsome, if_neg (by simp)]
  exact ⟨_, rfl, rfl, P', K', S'⟩

theorem all_mk {l : PySem.W.OpenLaw} {w : World} {K : PySem.W.Frag} {h : Heap} {mg : Str → Option Value} {fa f0 f1 f2 f3 f4 f5 f6 f7 f8 f9 f10 f11 f12 f13 f14 f15 f16 f17 f18 f19 f20 f21 f22 f23 f24 f25 f26 f27 f28 f29 : Addr} (X : K.In h) (G : h.Ns mainGlobals mg) (hfa : mg "law" = some (.ref fa))
    {od0 an0 : Option Addr} {sl0 : Array (Option Value)} {oc0 kV0 dc0 pm0 cd0 ct0 : Value} {od1 an1 : Option Addr} {sl1 : Array (Option Value)} {oc1 kV1 dc1 pm1 cd1 ct1 : Value} {od2 an2 : Option Addr} {sl2 : Array (Option Value)} {oc2 kV2 dc2 pm2 cd2 ct2 : Value} {od3 an3 : Option Addr} {sl3 : Array (Option Value)} {oc3 kV3 dc3 pm3 cd3 ct3 : Value} {od4 an4 : Option Addr} {sl4 : Array (Option Value)} {oc4 kV4 dc4 pm4 cd4 ct4 : Value} {od5 an5 : Option Addr} {sl5 : Array (Option Value)} {oc5 kV5 dc5 pm5 cd5 ct5 : Value} {od6 an6 : Option Addr} {sl6 : Array (Option Value)} {oc6 kV6 dc6 pm6 cd6 ct6 : Value} {od7 an7 : Option Addr} {sl7 : Array (Option Value)} {oc7 kV7 dc7 pm7 cd7 ct7 : Value} {od8 an8 : Option Addr} {sl8 : Array (Option Value)} {oc8 kV8 dc8 pm8 cd8 ct8 : Value} {od9 an9 : Option Addr} {sl9 : Array (Option Value)} {oc9 kV9 dc9 pm9 cd9 ct9 : Value} {od10 an10 : Option Addr} {sl10 : Array (Option Value)} {oc10 kV10 dc10 pm10 cd10 ct10 : Value} {od11 an11 : Option Addr} {sl11 : Array (Option Value)} {oc11 kV11 dc11 pm11 cd11 ct11 : Value} {od12 an12 : Option Addr} {sl12 : Array (Option Value)} {oc12 kV12 dc12 pm12 cd12 ct12 : Value} {od13 an13 : Option Addr} {sl13 : Array (Option Value)} {oc13 kV13 dc13 pm13 cd13 ct13 : Value} {od14 an14 : Option Addr} {sl14 : Array (Option Value)} {oc14 kV14 dc14 pm14 cd14 ct14 : Value} {od15 an15 : Option Addr} {sl15 : Array (Option Value)} {oc15 kV15 dc15 pm15 cd15 ct15 : Value} {od16 an16 : Option Addr} {sl16 : Array (Option Value)} {oc16 kV16 dc16 pm16 cd16 ct16 : Value} {od17 an17 : Option Addr} {sl17 : Array (Option Value)} {oc17 kV17 dc17 pm17 cd17 ct17 : Value} {od18 an18 : Option Addr} {sl18 : Array (Option Value)} {oc18 kV18 dc18 pm18 cd18 ct18 : Value} {od19 an19 : Option Addr} {sl19 : Array (Option Value)} {oc19 kV19 dc19 pm19 cd19 ct19 : Value} {od20 an20 : Option Addr} {sl20 : Array (Option Value)} {oc20 kV20 dc20 pm20 cd20 ct20 : Value} {od21 an21 : Option Addr} {sl21 : Array (Option Value)} {oc21 kV21 dc21 pm21 cd21 ct21 : Value} {od22 an22 : Option Addr} {sl22 : Array (Option Value)} {oc22 kV22 dc22 pm22 cd22 ct22 : Value} {od23 an23 : Option Addr} {sl23 : Array (Option Value)} {oc23 kV23 dc23 pm23 cd23 ct23 : Value} {od24 an24 : Option Addr} {sl24 : Array (Option Value)} {oc24 kV24 dc24 pm24 cd24 ct24 : Value} {od25 an25 : Option Addr} {sl25 : Array (Option Value)} {oc25 kV25 dc25 pm25 cd25 ct25 : Value} {od26 an26 : Option Addr} {sl26 : Array (Option Value)} {oc26 kV26 dc26 pm26 cd26 ct26 : Value} {od27 an27 : Option Addr} {sl27 : Array (Option Value)} {oc27 kV27 dc27 pm27 cd27 ct27 : Value} {od28 an28 : Option Addr} {sl28 : Array (Option Value)} {oc28 kV28 dc28 pm28 cd28 ct28 : Value} {od29 an29 : Option Addr} {sl29 : Array (Option Value)} {oc29 kV29 dc29 pm29 cd29 ct29 : Value}
    {cl_BearerError : Addr} (aC_BearerError : PySem.W.nsIn K mainGlobals "BearerError" = some (some (.ref cl_BearerError))) (xq_BearerError : PySem.W.excIn K cl_BearerError [.type "ValueError", .type "Exception", .type "BaseException", .type "object"] "ValueError.__new__" = true) (kc_BearerError : PySem.W.keepIn K (.ref cl_BearerError) = true) (xb_BearerError : PySem.W.subIn K (.ref cl_BearerError) (.type "BaseException") = some true) (xt_BearerError : PySem.W.typeIn K (.ref cl_BearerError) = some (.type "type"))
    (xg_BearerError : PySem.W.findIn K (.ref cl_BearerError) "__getattribute__" = some (some (.builtin "BaseException.__getattribute__"))) (xh_BearerError : PySem.W.findIn K (.ref cl_BearerError) "__getattr__" = some none) (xd_BearerError : PySem.W.hasDictIn K cl_BearerError = true) (xa_BearerError : PySem.W.findIn K (.ref cl_BearerError) "__class__" = some (some (.builtin "object.__class__"))) (xn_BearerError : PySem.W.specialIn K (.builtin "object.__class__") "__get__" = some (some (.builtin "getset_descriptor.__get__"))) (xz_BearerError : PySem.W.takesIn K (.builtin "object.__class__") = some true) (xo_BearerError : PySem.W.mroIn K cl_BearerError (.type "object") = some true)
    {cl_NotValid : Addr} (aC_NotValid : PySem.W.nsIn K mainGlobals "NotValid" = some (some (.ref cl_NotValid))) (xq_NotValid : PySem.W.excIn K cl_NotValid [.type "ValueError", .type "Exception", .type "BaseException", .type "object"] "ValueError.__new__" = true) (kc_NotValid : PySem.W.keepIn K (.ref cl_NotValid) = true) (xb_NotValid : PySem.W.subIn K (.ref cl_NotValid) (.type "BaseException") = some true) (xt_NotValid : PySem.W.typeIn K (.ref cl_NotValid) = some (.type "type"))
    (xg_NotValid : PySem.W.findIn K (.ref cl_NotValid) "__getattribute__" = some (some (.builtin "BaseException.__getattribute__"))) (xh_NotValid : PySem.W.findIn K (.ref cl_NotValid) "__getattr__" = some none) (xd_NotValid : PySem.W.hasDictIn K cl_NotValid = true) (xa_NotValid : PySem.W.findIn K (.ref cl_NotValid) "__class__" = some (some (.builtin "object.__class__"))) (xn_NotValid : PySem.W.specialIn K (.builtin "object.__class__") "__get__" = some (some (.builtin "getset_descriptor.__get__"))) (xz_NotValid : PySem.W.takesIn K (.builtin "object.__class__") = some true) (xo_NotValid : PySem.W.mroIn K cl_NotValid (.type "object") = some true)
    (xs_NotValid_BearerError : PySem.W.subIn K (.ref cl_NotValid) (.ref cl_BearerError) = some true)
    (xs_NotValid_NotValid : PySem.W.subIn K (.ref cl_NotValid) (.ref cl_NotValid) = some true)
    {cl_Sender : Addr} (aC_Sender : PySem.W.nsIn K mainGlobals "Sender" = some (some (.ref cl_Sender))) (pg_Sender : PySem.W.plainGet K cl_Sender Str.empty = true) (hd_Sender : PySem.W.hasDictIn K cl_Sender = true) (po_Sender : PySem.W.plainOver K cl_Sender = true) (sa_Sender : PySem.W.findIn K (.ref cl_Sender) "__setattr__" = some (some (.builtin "object.__setattr__"))) (mk_Sender : PySem.W.makesIn K cl_Sender = true) (kc_Sender : PySem.W.keepIn K (.ref cl_Sender) = true)
    (na_Sender_bits : PySem.W.findIn K (.ref cl_Sender) "bits" = some none)
    (na_Sender_window : PySem.W.findIn K (.ref cl_Sender) "window" = some none)
    (na_Sender_low : PySem.W.findIn K (.ref cl_Sender) "low" = some none)
    (na_Sender_next : PySem.W.findIn K (.ref cl_Sender) "next" = some none)
    (na_Sender_queue : PySem.W.findIn K (.ref cl_Sender) "queue" = some none)
    (na_Sender_kept : PySem.W.findIn K (.ref cl_Sender) "kept" = some none)
    (na_Sender_sent : PySem.W.findIn K (.ref cl_Sender) "sent" = some none)
    (na_Sender_again : PySem.W.findIn K (.ref cl_Sender) "again" = some none)
    (na_Sender_silent : PySem.W.findIn K (.ref cl_Sender) "silent" = some none)
    (a0 : PySem.W.nsIn K mainGlobals "check_widths" = some (some (.ref f0))) (l0 : K.lookup f0 = some ⟨oc0, od0, .func (PySem.W.fnOf "check_widths" "check_widths" (defArgs s_check_widths) (defBody s_check_widths) (defScope s_check_widths) .none kV0 dc0 pm0 an0 cd0 ct0), sl0⟩) (c0 : PySem.W.codeIn K cd0 "check_widths" = true) (k0 : PySem.W.keepIn K (.ref f0) = true)
    (a1 : PySem.W.nsIn K mainGlobals "field_bytes" = some (some (.ref f1))) (l1 : K.lookup f1 = some ⟨oc1, od1, .func (PySem.W.fnOf "field_bytes" "field_bytes" (defArgs s_field_bytes) (defBody s_field_bytes) (defScope s_field_bytes) .none kV1 dc1 pm1 an1 cd1 ct1), sl1⟩) (c1 : PySem.W.codeIn K cd1 "field_bytes" = true) (k1 : PySem.W.keepIn K (.ref f1) = true)
    (a2 : PySem.W.nsIn K mainGlobals "pack" = some (some (.ref f2))) (l2 : K.lookup f2 = some ⟨oc2, od2, .func (PySem.W.fnOf "pack" "pack" (defArgs s_pack) (defBody s_pack) (defScope s_pack) .none kV2 dc2 pm2 an2 cd2 ct2), sl2⟩) (c2 : PySem.W.codeIn K cd2 "pack" = true) (k2 : PySem.W.keepIn K (.ref f2) = true)
    (a3 : PySem.W.nsIn K mainGlobals "data_widths" = some (some (.ref f3))) (l3 : K.lookup f3 = some ⟨oc3, od3, .func (PySem.W.fnOf "data_widths" "data_widths" (defArgs s_data_widths) (defBody s_data_widths) (defScope s_data_widths) .none kV3 dc3 pm3 an3 cd3 ct3), sl3⟩) (c3 : PySem.W.codeIn K cd3 "data_widths" = true) (k3 : PySem.W.keepIn K (.ref f3) = true)
    (a4 : PySem.W.nsIn K mainGlobals "data_piece" = some (some (.ref f4))) (l4 : K.lookup f4 = some ⟨oc4, od4, .func (PySem.W.fnOf "data_piece" "data_piece" (defArgs s_data_piece) (defBody s_data_piece) (defScope s_data_piece) .none kV4 dc4 pm4 an4 cd4 ct4), sl4⟩) (c4 : PySem.W.codeIn K cd4 "data_piece" = true) (k4 : PySem.W.keepIn K (.ref f4) = true)
    (a5 : PySem.W.nsIn K mainGlobals "part_of" = some (some (.ref f5))) (l5 : K.lookup f5 = some ⟨oc5, od5, .func (PySem.W.fnOf "part_of" "part_of" (defArgs s_part_of) (defBody s_part_of) (defScope s_part_of) .none kV5 dc5 pm5 an5 cd5 ct5), sl5⟩) (c5 : PySem.W.codeIn K cd5 "part_of" = true) (k5 : PySem.W.keepIn K (.ref f5) = true)
    (a6 : PySem.W.nsIn K mainGlobals "cut" = some (some (.ref f6))) (l6 : K.lookup f6 = some ⟨oc6, od6, .func (PySem.W.fnOf "cut" "cut" (defArgs s_cut) (defBody s_cut) (defScope s_cut) .none kV6 dc6 pm6 an6 cd6 ct6), sl6⟩) (c6 : PySem.W.codeIn K cd6 "cut" = true) (k6 : PySem.W.keepIn K (.ref f6) = true)
    (a7 : PySem.W.nsIn K mainGlobals "is_packet" = some (some (.ref f7))) (l7 : K.lookup f7 = some ⟨oc7, od7, .func (PySem.W.fnOf "is_packet" "is_packet" (defArgs s_is_packet) (defBody s_is_packet) (defScope s_is_packet) .none kV7 dc7 pm7 an7 cd7 ct7), sl7⟩) (c7 : PySem.W.codeIn K cd7 "is_packet" = true) (k7 : PySem.W.keepIn K (.ref f7) = true)
    (a8 : PySem.W.findIn K (.ref cl_Sender) "__init__" = some (some (.ref f8))) (i8 : PySem.W.isFn K (.ref f8) = true) (l8 : K.lookup f8 = some ⟨oc8, od8, .func (PySem.W.fnOf "__init__" "Sender.__init__" (defArgs s_Sender___init__) (defBody s_Sender___init__) (defScope s_Sender___init__) .none kV8 dc8 pm8 an8 cd8 ct8), sl8⟩) (c8 : PySem.W.codeIn K cd8 "Sender.__init__" = true) (k8 : PySem.W.keepIn K (.ref f8) = true)
    (a9 : PySem.W.findIn K (.ref cl_Sender) "put" = some (some (.ref f9))) (i9 : PySem.W.isFn K (.ref f9) = true) (l9 : K.lookup f9 = some ⟨oc9, od9, .func (PySem.W.fnOf "put" "Sender.put" (defArgs s_Sender_put) (defBody s_Sender_put) (defScope s_Sender_put) .none kV9 dc9 pm9 an9 cd9 ct9), sl9⟩) (c9 : PySem.W.codeIn K cd9 "Sender.put" = true) (k9 : PySem.W.keepIn K (.ref f9) = true)
    (a10 : PySem.W.findIn K (.ref cl_Sender) "sent_of" = some (some (.ref f10))) (i10 : PySem.W.isFn K (.ref f10) = true) (l10 : K.lookup f10 = some ⟨oc10, od10, .func (PySem.W.fnOf "sent_of" "Sender.sent_of" (defArgs s_Sender_sent_of) (defBody s_Sender_sent_of) (defScope s_Sender_sent_of) .none kV10 dc10 pm10 an10 cd10 ct10), sl10⟩) (c10 : PySem.W.codeIn K cd10 "Sender.sent_of" = true) (k10 : PySem.W.keepIn K (.ref f10) = true)
    (a11 : PySem.W.findIn K (.ref cl_Sender) "is_begun" = some (some (.ref f11))) (i11 : PySem.W.isFn K (.ref f11) = true) (l11 : K.lookup f11 = some ⟨oc11, od11, .func (PySem.W.fnOf "is_begun" "Sender.is_begun" (defArgs s_Sender_is_begun) (defBody s_Sender_is_begun) (defScope s_Sender_is_begun) .none kV11 dc11 pm11 an11 cd11 ct11), sl11⟩) (c11 : PySem.W.codeIn K cd11 "Sender.is_begun" = true) (k11 : PySem.W.keepIn K (.ref f11) = true)
    (a12 : PySem.W.findIn K (.ref cl_Sender) "can_begin" = some (some (.ref f12))) (i12 : PySem.W.isFn K (.ref f12) = true) (l12 : K.lookup f12 = some ⟨oc12, od12, .func (PySem.W.fnOf "can_begin" "Sender.can_begin" (defArgs s_Sender_can_begin) (defBody s_Sender_can_begin) (defScope s_Sender_can_begin) .none kV12 dc12 pm12 an12 cd12 ct12), sl12⟩) (c12 : PySem.W.codeIn K cd12 "Sender.can_begin" = true) (k12 : PySem.W.keepIn K (.ref f12) = true)
    (a13 : PySem.W.findIn K (.ref cl_Sender) "has_work" = some (some (.ref f13))) (i13 : PySem.W.isFn K (.ref f13) = true) (l13 : K.lookup f13 = some ⟨oc13, od13, .func (PySem.W.fnOf "has_work" "Sender.has_work" (defArgs s_Sender_has_work) (defBody s_Sender_has_work) (defScope s_Sender_has_work) .none kV13 dc13 pm13 an13 cd13 ct13), sl13⟩) (c13 : PySem.W.codeIn K cd13 "Sender.has_work" = true) (k13 : PySem.W.keepIn K (.ref f13) = true)
    (a14 : PySem.W.findIn K (.ref cl_Sender) "choice" = some (some (.ref f14))) (i14 : PySem.W.isFn K (.ref f14) = true) (l14 : K.lookup f14 = some ⟨oc14, od14, .func (PySem.W.fnOf "choice" "Sender.choice" (defArgs s_Sender_choice) (defBody s_Sender_choice) (defScope s_Sender_choice) .none kV14 dc14 pm14 an14 cd14 ct14), sl14⟩) (c14 : PySem.W.codeIn K cd14 "Sender.choice" = true) (k14 : PySem.W.keepIn K (.ref f14) = true)
    (a15 : PySem.W.findIn K (.ref cl_Sender) "fitting" = some (some (.ref f15))) (i15 : PySem.W.isFn K (.ref f15) = true) (l15 : K.lookup f15 = some ⟨oc15, od15, .func (PySem.W.fnOf "fitting" "Sender.fitting" (defArgs s_Sender_fitting) (defBody s_Sender_fitting) (defScope s_Sender_fitting) .none kV15 dc15 pm15 an15 cd15 ct15), sl15⟩) (c15 : PySem.W.codeIn K cd15 "Sender.fitting" = true) (k15 : PySem.W.keepIn K (.ref f15) = true)
    (a16 : PySem.W.findIn K (.ref cl_Sender) "has_piece" = some (some (.ref f16))) (i16 : PySem.W.isFn K (.ref f16) = true) (l16 : K.lookup f16 = some ⟨oc16, od16, .func (PySem.W.fnOf "has_piece" "Sender.has_piece" (defArgs s_Sender_has_piece) (defBody s_Sender_has_piece) (defScope s_Sender_has_piece) .none kV16 dc16 pm16 an16 cd16 ct16), sl16⟩) (c16 : PySem.W.codeIn K cd16 "Sender.has_piece" = true) (k16 : PySem.W.keepIn K (.ref f16) = true)
    (a17 : PySem.W.findIn K (.ref cl_Sender) "send" = some (some (.ref f17))) (i17 : PySem.W.isFn K (.ref f17) = true) (l17 : K.lookup f17 = some ⟨oc17, od17, .func (PySem.W.fnOf "send" "Sender.send" (defArgs s_Sender_send) (defBody s_Sender_send) (defScope s_Sender_send) .none kV17 dc17 pm17 an17 cd17 ct17), sl17⟩) (c17 : PySem.W.codeIn K cd17 "Sender.send" = true) (k17 : PySem.W.keepIn K (.ref f17) = true)
    (a18 : PySem.W.findIn K (.ref cl_Sender) "true_number" = some (some (.ref f18))) (i18 : PySem.W.isFn K (.ref f18) = true) (l18 : K.lookup f18 = some ⟨oc18, od18, .func (PySem.W.fnOf "true_number" "Sender.true_number" (defArgs s_Sender_true_number) (defBody s_Sender_true_number) (defScope s_Sender_true_number) .none kV18 dc18 pm18 an18 cd18 ct18), sl18⟩) (c18 : PySem.W.codeIn K cd18 "Sender.true_number" = true) (k18 : PySem.W.keepIn K (.ref f18) = true)
    (a19 : PySem.W.findIn K (.ref cl_Sender) "ask" = some (some (.ref f19))) (i19 : PySem.W.isFn K (.ref f19) = true) (l19 : K.lookup f19 = some ⟨oc19, od19, .func (PySem.W.fnOf "ask" "Sender.ask" (defArgs s_Sender_ask) (defBody s_Sender_ask) (defScope s_Sender_ask) .none kV19 dc19 pm19 an19 cd19 ct19), sl19⟩) (c19 : PySem.W.codeIn K cd19 "Sender.ask" = true) (k19 : PySem.W.keepIn K (.ref f19) = true)
    (a20 : PySem.W.findIn K (.ref cl_Sender) "take_status" = some (some (.ref f20))) (i20 : PySem.W.isFn K (.ref f20) = true) (l20 : K.lookup f20 = some ⟨oc20, od20, .func (PySem.W.fnOf "take_status" "Sender.take_status" (defArgs s_Sender_take_status) (defBody s_Sender_take_status) (defScope s_Sender_take_status) .none kV20 dc20 pm20 an20 cd20 ct20), sl20⟩) (c20 : PySem.W.codeIn K cd20 "Sender.take_status" = true) (k20 : PySem.W.keepIn K (.ref f20) = true)
    (a21 : PySem.W.findIn K (.ref cl_Sender) "tick" = some (some (.ref f21))) (i21 : PySem.W.isFn K (.ref f21) = true) (l21 : K.lookup f21 = some ⟨oc21, od21, .func (PySem.W.fnOf "tick" "Sender.tick" (defArgs s_Sender_tick) (defBody s_Sender_tick) (defScope s_Sender_tick) .none kV21 dc21 pm21 an21 cd21 ct21), sl21⟩) (c21 : PySem.W.codeIn K cd21 "Sender.tick" = true) (k21 : PySem.W.keepIn K (.ref f21) = true)
    (a22 : PySem.W.findIn K (.ref cl_Sender) "unconfirmed" = some (some (.ref f22))) (i22 : PySem.W.isFn K (.ref f22) = true) (l22 : K.lookup f22 = some ⟨oc22, od22, .func (PySem.W.fnOf "unconfirmed" "Sender.unconfirmed" (defArgs s_Sender_unconfirmed) (defBody s_Sender_unconfirmed) (defScope s_Sender_unconfirmed) .none kV22 dc22 pm22 an22 cd22 ct22), sl22⟩) (c22 : PySem.W.codeIn K cd22 "Sender.unconfirmed" = true) (k22 : PySem.W.keepIn K (.ref f22) = true)
    (a23 : PySem.W.findIn K (.ref cl_Sender) "waiting" = some (some (.ref f23))) (i23 : PySem.W.isFn K (.ref f23) = true) (l23 : K.lookup f23 = some ⟨oc23, od23, .func (PySem.W.fnOf "waiting" "Sender.waiting" (defArgs s_Sender_waiting) (defBody s_Sender_waiting) (defScope s_Sender_waiting) .none kV23 dc23 pm23 an23 cd23 ct23), sl23⟩) (c23 : PySem.W.codeIn K cd23 "Sender.waiting" = true) (k23 : PySem.W.keepIn K (.ref f23) = true)
    (a24 : PySem.W.findIn K (.ref cl_Sender) "is_idle" = some (some (.ref f24))) (i24 : PySem.W.isFn K (.ref f24) = true) (l24 : K.lookup f24 = some ⟨oc24, od24, .func (PySem.W.fnOf "is_idle" "Sender.is_idle" (defArgs s_Sender_is_idle) (defBody s_Sender_is_idle) (defScope s_Sender_is_idle) .none kV24 dc24 pm24 an24 cd24 ct24), sl24⟩) (c24 : PySem.W.codeIn K cd24 "Sender.is_idle" = true) (k24 : PySem.W.keepIn K (.ref f24) = true)
    (a25 : PySem.W.nsIn K mainGlobals "_law_cell" = some (some (.ref f25))) (l25 : K.lookup f25 = some ⟨oc25, od25, .func (PySem.W.fnOf "_law_cell" "_law_cell" (defArgs s_l_cell) (defBody s_l_cell) (defScope s_l_cell) .none kV25 dc25 pm25 an25 cd25 ct25), sl25⟩) (c25 : PySem.W.codeIn K cd25 "_law_cell" = true) (k25 : PySem.W.keepIn K (.ref f25) = true)
    (a26 : PySem.W.nsIn K mainGlobals "_law_digits" = some (some (.ref f26))) (l26 : K.lookup f26 = some ⟨oc26, od26, .func (PySem.W.fnOf "_law_digits" "_law_digits" (defArgs s_l_digits) (defBody s_l_digits) (defScope s_l_digits) .none kV26 dc26 pm26 an26 cd26 ct26), sl26⟩) (c26 : PySem.W.codeIn K cd26 "_law_digits" = true) (k26 : PySem.W.keepIn K (.ref f26) = true)
    (a27 : PySem.W.nsIn K mainGlobals "_law_many" = some (some (.ref f27))) (l27 : K.lookup f27 = some ⟨oc27, od27, .func (PySem.W.fnOf "_law_many" "_law_many" (defArgs s_l_many) (defBody s_l_many) (defScope s_l_many) .none kV27 dc27 pm27 an27 cd27 ct27), sl27⟩) (c27 : PySem.W.codeIn K cd27 "_law_many" = true) (k27 : PySem.W.keepIn K (.ref f27) = true)
    (a28 : PySem.W.nsIn K mainGlobals "_law_both" = some (some (.ref f28))) (l28 : K.lookup f28 = some ⟨oc28, od28, .func (PySem.W.fnOf "_law_both" "_law_both" (defArgs s_l_both) (defBody s_l_both) (defScope s_l_both) .none kV28 dc28 pm28 an28 cd28 ct28), sl28⟩) (c28 : PySem.W.codeIn K cd28 "_law_both" = true) (k28 : PySem.W.keepIn K (.ref f28) = true)
    (a29 : PySem.W.nsIn K mainGlobals "law" = some (some (.ref f29))) (l29 : K.lookup f29 = some ⟨oc29, od29, .func (PySem.W.fnOf "law" "law" (defArgs s_law) (defBody s_law) (defScope s_law) .none kV29 dc29 pm29 an29 cd29 ct29), sl29⟩) (c29 : PySem.W.codeIn K cd29 "law" = true) (k29 : PySem.W.keepIn K (.ref f29) = true)
    (z0 : PySem.W.nsIn K mainGlobals "bool" = some none)
    (z1 : PySem.W.nsIn K mainGlobals "int" = some none)
    (z2 : PySem.W.nsIn K mainGlobals "isinstance" = some none)
    (z3 : PySem.W.nsIn K mainGlobals "len" = some none)
    (z4 : PySem.W.nsIn K mainGlobals "list" = some none)
    (z5 : PySem.W.nsIn K mainGlobals "max" = some none)
    (z6 : PySem.W.nsIn K mainGlobals "min" = some none)
    (z7 : PySem.W.nsIn K mainGlobals "range" = some none)
    (z8 : PySem.W.nsIn K mainGlobals "sorted" = some none)
    (z9 : PySem.W.nsIn K mainGlobals "sum" = some none)
    (z10 : PySem.W.nsIn K mainGlobals "zip" = some none)
    {t0 : Tok} (y0 : PySem.W.nsIn K mainGlobals "BEGINNING" = some (some (.int 1 t0)))
    {t1 : Tok} (y1 : PySem.W.nsIn K mainGlobals "END" = some (some (.int 2 t1)))
    {t2 : Tok} (y2 : PySem.W.nsIn K mainGlobals "LEAST_BITS" = some (some (.int 3 t2)))
    {t3 : Tok} (y3 : PySem.W.nsIn K mainGlobals "MOST_BITS" = some (some (.int 6 t3)))
    {t4 : Tok} (y4 : PySem.W.nsIn K mainGlobals "MOST_BYTES" = some (some (.int 200 t4)))
    {t5 : Tok} (y5 : PySem.W.nsIn K mainGlobals "PATIENCE" = some (some (.int 4 t5)))
    {t6 : Tok} (y6 : PySem.W.nsIn K mainGlobals "WHOLE" = some (some (.int 0 t6)))
    {t7 : Tok} (y7 : PySem.W.nsIn K mainGlobals "WITHIN" = some (some (.int 3 t7)))
    : ∃ fd : FuncData, (∀ (s : Shared) (v : Value), BindsTo s fd ⟨[v], []⟩ [("_law_script", v)]) ∧ ∀ base : Heap, K.In base → base.Ns mainGlobals mg → FnOk l.prog w K mg base CX0 9 fa fd ["_law_script"] (sp_law K 0 0 0) := by
  have e := hfa.symm.trans (PySem.W.mg_of X G a29)
  cases e
  have T_Sender : CF_Sender K cl_Sender := ⟨⟨pg_Sender, hd_Sender, po_Sender, sa_Sender⟩, na_Sender_bits, na_Sender_window, na_Sender_low, na_Sender_next, na_Sender_queue, na_Sender_kept, na_Sender_sent, na_Sender_again, na_Sender_silent⟩
  have X_BearerError : ExK K mg "BearerError" cl_BearerError := ⟨PySem.W.mg_of X G aC_BearerError, xq_BearerError, kc_BearerError, xb_BearerError, xt_BearerError⟩
  have E_BearerError : ExcC K cl_BearerError := ⟨xg_BearerError, xh_BearerError, xb_BearerError, xd_BearerError, xa_BearerError, xn_BearerError, xz_BearerError, xo_BearerError⟩
  have X_NotValid : ExK K mg "NotValid" cl_NotValid := ⟨PySem.W.mg_of X G aC_NotValid, xq_NotValid, kc_NotValid, xb_NotValid, xt_NotValid⟩
  have E_NotValid : ExcC K cl_NotValid := ⟨xg_NotValid, xh_NotValid, xb_NotValid, xd_NotValid, xa_NotValid, xn_NotValid, xz_NotValid, xo_NotValid⟩
  have xm_NotValid_BearerError : PySem.W.exmOne K (.ref cl_NotValid) (.ref cl_BearerError) = some true := PySem.W.exm_ref xb_BearerError xd_BearerError xt_BearerError xs_NotValid_BearerError
  have xk_NotValid_NotValid : PySem.W.kitOne K (.ref cl_NotValid) (.ref cl_NotValid) = some true := kit_one xd_NotValid xt_NotValid xs_NotValid_NotValid xs_NotValid_NotValid
  have F0 := fun_mk (st := s_check_widths) l0 c0 k0
  have F1 := fun_mk (st := s_field_bytes) l1 c1 k1
  have F2 := fun_mk (st := s_pack) l2 c2 k2
  have F3 := fun_mk (st := s_data_widths) l3 c3 k3
  have F4 := fun_mk (st := s_data_piece) l4 c4 k4
  have F5 := fun_mk (st := s_part_of) l5 c5 k5
  have F6 := fun_mk (st := s_cut) l6 c6 k6
  have F7 := fun_mk (st := s_is_packet) l7 c7 k7
  have F8 := fun_mk (st := s_Sender___init__) l8 c8 k8
  have F9 := fun_mk (st := s_Sender_put) l9 c9 k9
  have F10 := fun_mk (st := s_Sender_sent_of) l10 c10 k10
  have F11 := fun_mk (st := s_Sender_is_begun) l11 c11 k11
  have F12 := fun_mk (st := s_Sender_can_begin) l12 c12 k12
  have F13 := fun_mk (st := s_Sender_has_work) l13 c13 k13
  have F14 := fun_mk (st := s_Sender_choice) l14 c14 k14
  have F15 := fun_mk (st := s_Sender_fitting) l15 c15 k15
  have F16 := fun_mk (st := s_Sender_has_piece) l16 c16 k16
  have F17 := fun_mk (st := s_Sender_send) l17 c17 k17
  have F18 := fun_mk (st := s_Sender_true_number) l18 c18 k18
  have F19 := fun_mk (st := s_Sender_ask) l19 c19 k19
  have F20 := fun_mk (st := s_Sender_take_status) l20 c20 k20
  have F21 := fun_mk (st := s_Sender_tick) l21 c21 k21
  have F22 := fun_mk (st := s_Sender_unconfirmed) l22 c22 k22
  have F23 := fun_mk (st := s_Sender_waiting) l23 c23 k23
  have F24 := fun_mk (st := s_Sender_is_idle) l24 c24 k24
  have F25 := fun_mk (st := s_l_cell) l25 c25 k25
  have F26 := fun_mk (st := s_l_digits) l26 c26 k26
  have F27 := fun_mk (st := s_l_many) l27 c27 k27
  have F28 := fun_mk (st := s_l_both) l28 c28 k28
  have F29 := fun_mk (st := s_law) l29 c29 k29
  have m_bool := PySem.W.mg_none_of X G z0
  have m_int := PySem.W.mg_none_of X G z1
  have m_isinstance := PySem.W.mg_none_of X G z2
  have m_len := PySem.W.mg_none_of X G z3
  have m_list := PySem.W.mg_none_of X G z4
  have m_max := PySem.W.mg_none_of X G z5
  have m_min := PySem.W.mg_none_of X G z6
  have m_range := PySem.W.mg_none_of X G z7
  have m_sorted := PySem.W.mg_none_of X G z8
  have m_sum := PySem.W.mg_none_of X G z9
  have m_zip := PySem.W.mg_none_of X G z10
  have g_BEGINNING := PySem.W.mg_of X G y0
  have g_END := PySem.W.mg_of X G y1
  have g_LEAST_BITS := PySem.W.mg_of X G y2
  have g_MOST_BITS := PySem.W.mg_of X G y3
  have g_MOST_BYTES := PySem.W.mg_of X G y4
  have g_PATIENCE := PySem.W.mg_of X G y5
  have g_WHOLE := PySem.W.mg_of X G y6
  have g_WITHIN := PySem.W.mg_of X G y7
  refine ⟨PySem.W.fnOf "law" "law" (defArgs s_law) (defBody s_law) (defScope s_law) .none kV29 dc29 pm29 an29 cd29 ct29, fun s v => .of_eq rfl, fun base _ _ => ?_⟩
  have c_check_widths : Cal l.prog w K mg base 1 "check_widths" (sp_check_widths K cl_Sender cl_BearerError cl_NotValid) := ⟨f0, _, _, ok_check_widths F0 T_Sender X_BearerError E_BearerError X_NotValid E_NotValid xm_NotValid_BearerError xk_NotValid_NotValid, PySem.W.mg_of X G a0, k0, F0.binds (ps := ["widths"]) fun _ _ _ _ _ _ us hl => match us, hl with | [_], _ => rfl⟩
  have c_field_bytes : Cal l.prog w K mg base 2 "field_bytes" (sp_field_bytes K cl_Sender cl_BearerError cl_NotValid) := ⟨f1, _, _, ok_field_bytes F1 T_Sender X_BearerError E_BearerError X_NotValid E_NotValid xm_NotValid_BearerError xk_NotValid_NotValid m_sum c_check_widths, PySem.W.mg_of X G a1, k1, F1.binds (ps := ["widths"]) fun _ _ _ _ _ _ us hl => match us, hl with | [_], _ => rfl⟩
  have c_pack : Cal l.prog w K mg base 3 "pack" (sp_pack K cl_Sender cl_BearerError cl_NotValid) := ⟨f2, _, _, ok_pack F2 T_Sender X_BearerError E_BearerError X_NotValid E_NotValid xm_NotValid_BearerError xk_NotValid_NotValid m_len m_range m_sum m_zip c_check_widths c_field_bytes, PySem.W.mg_of X G a2, k2, F2.binds (ps := ["widths", "values"]) fun _ _ _ _ _ _ us hl => match us, hl with | [_, _], _ => rfl⟩
  have c_data_widths : Cal l.prog w K mg base 1 "data_widths" (sp_data_widths K cl_Sender cl_BearerError cl_NotValid) := ⟨f3, _, _, ok_data_widths F3 T_Sender X_BearerError E_BearerError X_NotValid E_NotValid xm_NotValid_BearerError xk_NotValid_NotValid g_END g_WITHIN, PySem.W.mg_of X G a3, k3, F3.binds (ps := ["bits", "part"]) fun _ _ _ _ _ _ us hl => match us, hl with | [_, _], _ => rfl⟩
  have c_data_piece : Cal l.prog w K mg base 4 "data_piece" (sp_data_piece K cl_Sender cl_BearerError cl_NotValid) := ⟨f4, _, _, ok_data_piece F4 T_Sender X_BearerError E_BearerError X_NotValid E_NotValid xm_NotValid_BearerError xk_NotValid_NotValid m_int m_list g_END g_WITHIN c_data_widths c_pack, PySem.W.mg_of X G a4, k4, F4.binds (ps := ["bits", "poll", "number", "part", "offset", "body"]) fun _ _ _ _ _ _ us hl => match us, hl with | [_, _, _, _, _, _], _ => rfl⟩
  have c_part_of : Cal l.prog w K mg base 1 "part_of" (sp_part_of K cl_Sender cl_BearerError cl_NotValid) := ⟨f5, _, _, ok_part_of F5 T_Sender X_BearerError E_BearerError X_NotValid E_NotValid xm_NotValid_BearerError xk_NotValid_NotValid m_len g_BEGINNING g_END g_WHOLE g_WITHIN, PySem.W.mg_of X G a5, k5, F5.binds (ps := ["packet", "start", "stop"]) fun _ _ _ _ _ _ us hl => match us, hl with | [_, _, _], _ => rfl⟩
  have c_cut : Cal l.prog w K mg base 5 "cut" (sp_cut K cl_Sender cl_BearerError cl_NotValid) := ⟨f6, _, _, ok_cut F6 T_Sender X_BearerError E_BearerError X_NotValid E_NotValid xm_NotValid_BearerError xk_NotValid_NotValid m_range c_data_piece c_data_widths c_field_bytes c_part_of, PySem.W.mg_of X G a6, k6, F6.binds (ps := ["bits", "poll", "number", "packet", "start", "stop", "room"]) fun _ _ _ _ _ _ us hl => match us, hl with | [_, _, _, _, _, _, _], _ => rfl⟩
  have c_is_packet : Cal l.prog w K mg base 1 "is_packet" (sp_is_packet K cl_Sender cl_BearerError cl_NotValid) := ⟨f7, _, _, ok_is_packet F7 T_Sender X_BearerError E_BearerError X_NotValid E_NotValid xm_NotValid_BearerError xk_NotValid_NotValid m_bool m_int m_isinstance m_len m_list g_MOST_BYTES, PySem.W.mg_of X G a7, k7, F7.binds (ps := ["packet"]) fun _ _ _ _ _ _ us hl => match us, hl with | [_], _ => rfl⟩
  have c_Sender___init__ : CalC l.prog w K mg base 1 cl_Sender "Sender" (sp_Sender___init__ K cl_Sender cl_BearerError cl_NotValid) := ⟨f8, _, _, ok_Sender___init__ F8 T_Sender X_BearerError E_BearerError X_NotValid E_NotValid xm_NotValid_BearerError xk_NotValid_NotValid g_LEAST_BITS g_MOST_BITS, PySem.W.mg_of X G aC_Sender, ⟨mk_Sender, a8, i8, kc_Sender⟩, F8.binds (ps := ["self", "bits", "window"]) fun _ _ _ _ _ _ us hl => match us, hl with | [_, _, _], _ => rfl⟩
  have c_Sender_put : CalM l.prog w K mg base 2 cl_Sender "put" (sp_Sender_put K cl_Sender cl_BearerError cl_NotValid) := ⟨f9, _, _, ok_Sender_put F9 T_Sender X_BearerError E_BearerError X_NotValid E_NotValid xm_NotValid_BearerError xk_NotValid_NotValid m_list c_is_packet, ⟨a9, i9, k9⟩, F9.binds (ps := ["self", "packet"]) fun _ _ _ _ _ _ us hl => match us, hl with | [_, _], _ => rfl⟩
  have c_Sender_sent_of : CalM l.prog w K mg base 1 cl_Sender "sent_of" (sp_Sender_sent_of K cl_Sender cl_BearerError cl_NotValid) := ⟨f10, _, _, ok_Sender_sent_of F10 T_Sender X_BearerError E_BearerError X_NotValid E_NotValid xm_NotValid_BearerError xk_NotValid_NotValid m_len, ⟨a10, i10, k10⟩, F10.binds (ps := ["self", "number"]) fun _ _ _ _ _ _ us hl => match us, hl with | [_, _], _ => rfl⟩
  have c_Sender_is_begun : CalM l.prog w K mg base 1 cl_Sender "is_begun" (sp_Sender_is_begun K cl_Sender cl_BearerError cl_NotValid) := ⟨f11, _, _, ok_Sender_is_begun F11 T_Sender X_BearerError E_BearerError X_NotValid E_NotValid xm_NotValid_BearerError xk_NotValid_NotValid m_len, ⟨a11, i11, k11⟩, F11.binds (ps := ["self"]) fun _ _ _ _ _ _ us hl => match us, hl with | [_], _ => rfl⟩
  have c_Sender_can_begin : CalM l.prog w K mg base 1 cl_Sender "can_begin" (sp_Sender_can_begin K cl_Sender cl_BearerError cl_NotValid) := ⟨f12, _, _, ok_Sender_can_begin F12 T_Sender X_BearerError E_BearerError X_NotValid E_NotValid xm_NotValid_BearerError xk_NotValid_NotValid m_len, ⟨a12, i12, k12⟩, F12.binds (ps := ["self"]) fun _ _ _ _ _ _ us hl => match us, hl with | [_], _ => rfl⟩
  have c_Sender_has_work : CalM l.prog w K mg base 2 cl_Sender "has_work" (sp_Sender_has_work K cl_Sender cl_BearerError cl_NotValid) := ⟨f13, _, _, ok_Sender_has_work F13 T_Sender X_BearerError E_BearerError X_NotValid E_NotValid xm_NotValid_BearerError xk_NotValid_NotValid m_len c_Sender_can_begin c_Sender_is_begun, ⟨a13, i13, k13⟩, F13.binds (ps := ["self"]) fun _ _ _ _ _ _ us hl => match us, hl with | [_], _ => rfl⟩
  have c_Sender_choice : CalM l.prog w K mg base 2 cl_Sender "choice" (sp_Sender_choice K cl_Sender cl_BearerError cl_NotValid) := ⟨f14, _, _, ok_Sender_choice F14 T_Sender X_BearerError E_BearerError X_NotValid E_NotValid xm_NotValid_BearerError xk_NotValid_NotValid m_len c_Sender_can_begin c_Sender_is_begun, ⟨a14, i14, k14⟩, F14.binds (ps := ["self"]) fun _ _ _ _ _ _ us hl => match us, hl with | [_], _ => rfl⟩
  have c_Sender_fitting : CalM l.prog w K mg base 6 cl_Sender "fitting" (sp_Sender_fitting K cl_Sender cl_BearerError cl_NotValid) := ⟨f15, _, _, ok_Sender_fitting F15 T_Sender X_BearerError E_BearerError X_NotValid E_NotValid xm_NotValid_BearerError xk_NotValid_NotValid c_Sender_choice c_cut, ⟨a15, i15, k15⟩, F15.binds (ps := ["self", "room"]) fun _ _ _ _ _ _ us hl => match us, hl with | [_, _], _ => rfl⟩
  have c_Sender_has_piece : CalM l.prog w K mg base 7 cl_Sender "has_piece" (sp_Sender_has_piece K cl_Sender cl_BearerError cl_NotValid) := ⟨f16, _, _, ok_Sender_has_piece F16 T_Sender X_BearerError E_BearerError X_NotValid E_NotValid xm_NotValid_BearerError xk_NotValid_NotValid c_Sender_fitting, ⟨a16, i16, k16⟩, F16.binds (ps := ["self", "room"]) fun _ _ _ _ _ _ us hl => match us, hl with | [_, _], _ => rfl⟩
  have c_Sender_send : CalM l.prog w K mg base 7 cl_Sender "send" (sp_Sender_send K cl_Sender cl_BearerError cl_NotValid) := ⟨f17, _, _, ok_Sender_send F17 T_Sender X_BearerError E_BearerError X_NotValid E_NotValid xm_NotValid_BearerError xk_NotValid_NotValid c_Sender_fitting c_Sender_has_work c_cut, ⟨a17, i17, k17⟩, F17.binds (ps := ["self", "room"]) fun _ _ _ _ _ _ us hl => match us, hl with | [_, _], _ => rfl⟩
  have c_Sender_true_number : CalM l.prog w K mg base 1 cl_Sender "true_number" (sp_Sender_true_number K cl_Sender cl_BearerError cl_NotValid) := ⟨f18, _, _, ok_Sender_true_number F18 T_Sender X_BearerError E_BearerError X_NotValid E_NotValid xm_NotValid_BearerError xk_NotValid_NotValid, ⟨a18, i18, k18⟩, F18.binds (ps := ["self", "number"]) fun _ _ _ _ _ _ us hl => match us, hl with | [_, _], _ => rfl⟩
  have c_Sender_ask : CalM l.prog w K mg base 1 cl_Sender "ask" (sp_Sender_ask K cl_Sender cl_BearerError cl_NotValid) := ⟨f19, _, _, ok_Sender_ask F19 T_Sender X_BearerError E_BearerError X_NotValid E_NotValid xm_NotValid_BearerError xk_NotValid_NotValid m_max, ⟨a19, i19, k19⟩, F19.binds (ps := ["self", "number", "start", "stop"]) fun _ _ _ _ _ _ us hl => match us, hl with | [_, _, _, _], _ => rfl⟩
  have c_Sender_take_status : CalM l.prog w K mg base 2 cl_Sender "take_status" (sp_Sender_take_status K cl_Sender cl_BearerError cl_NotValid) := ⟨f20, _, _, ok_Sender_take_status F20 T_Sender X_BearerError E_BearerError X_NotValid E_NotValid xm_NotValid_BearerError xk_NotValid_NotValid m_min m_sorted c_Sender_ask c_Sender_sent_of c_Sender_true_number, ⟨a20, i20, k20⟩, F20.binds (ps := ["self", "upto", "missing"]) fun _ _ _ _ _ _ us hl => match us, hl with | [_, _, _], _ => rfl⟩
  have c_Sender_tick : CalM l.prog w K mg base 3 cl_Sender "tick" (sp_Sender_tick K cl_Sender cl_BearerError cl_NotValid) := ⟨f21, _, _, ok_Sender_tick F21 T_Sender X_BearerError E_BearerError X_NotValid E_NotValid xm_NotValid_BearerError xk_NotValid_NotValid m_len g_PATIENCE c_Sender_ask c_Sender_has_work c_Sender_sent_of, ⟨a21, i21, k21⟩, F21.binds (ps := ["self"]) fun _ _ _ _ _ _ us hl => match us, hl with | [_], _ => rfl⟩
  have c_Sender_unconfirmed : CalM l.prog w K mg base 1 cl_Sender "unconfirmed" (sp_Sender_unconfirmed K cl_Sender cl_BearerError cl_NotValid) := ⟨f22, _, _, ok_Sender_unconfirmed F22 T_Sender X_BearerError E_BearerError X_NotValid E_NotValid xm_NotValid_BearerError xk_NotValid_NotValid m_list m_sorted, ⟨a22, i22, k22⟩, F22.binds (ps := ["self"]) fun _ _ _ _ _ _ us hl => match us, hl with | [_], _ => rfl⟩
  have c_Sender_waiting : CalM l.prog w K mg base 1 cl_Sender "waiting" (sp_Sender_waiting K cl_Sender cl_BearerError cl_NotValid) := ⟨f23, _, _, ok_Sender_waiting F23 T_Sender X_BearerError E_BearerError X_NotValid E_NotValid xm_NotValid_BearerError xk_NotValid_NotValid m_list, ⟨a23, i23, k23⟩, F23.binds (ps := ["self"]) fun _ _ _ _ _ _ us hl => match us, hl with | [_], _ => rfl⟩
  have c_Sender_is_idle : CalM l.prog w K mg base 1 cl_Sender "is_idle" (sp_Sender_is_idle K cl_Sender cl_BearerError cl_NotValid) := ⟨f24, _, _, ok_Sender_is_idle F24 T_Sender X_BearerError E_BearerError X_NotValid E_NotValid xm_NotValid_BearerError xk_NotValid_NotValid m_len, ⟨a24, i24, k24⟩, F24.binds (ps := ["self"]) fun _ _ _ _ _ _ us hl => match us, hl with | [_], _ => rfl⟩
  have c_l_cell : Cal l.prog w K mg base 1 "_law_cell" (sp_l_cell K cl_Sender cl_BearerError cl_NotValid) := ⟨f25, _, _, ok_l_cell F25 T_Sender X_BearerError E_BearerError X_NotValid E_NotValid xm_NotValid_BearerError xk_NotValid_NotValid m_int m_len, PySem.W.mg_of X G a25, k25, F25.binds (ps := ["_law_script", "_law_k"]) fun _ _ _ _ _ _ us hl => match us, hl with | [_, _], _ => rfl⟩
  have c_l_digits : Cal l.prog w K mg base 1 "_law_digits" (sp_l_digits K cl_Sender cl_BearerError cl_NotValid) := ⟨f26, _, _, ok_l_digits F26 T_Sender X_BearerError E_BearerError X_NotValid E_NotValid xm_NotValid_BearerError xk_NotValid_NotValid m_int m_len, PySem.W.mg_of X G a26, k26, F26.binds (ps := ["_law_cell_here", "_law_bases"]) fun _ _ _ _ _ _ us hl => match us, hl with | [_, _], _ => rfl⟩
  have c_l_many : Cal l.prog w K mg base 1 "_law_many" (sp_l_many K cl_Sender cl_BearerError cl_NotValid) := ⟨f27, _, _, ok_l_many F27 T_Sender X_BearerError E_BearerError X_NotValid E_NotValid xm_NotValid_BearerError xk_NotValid_NotValid m_int m_len, PySem.W.mg_of X G a27, k27, F27.binds (ps := ["_law_script", "_law_few", "_law_many_here"]) fun _ _ _ _ _ _ us hl => match us, hl with | [_, _, _], _ => rfl⟩
  have c_l_both : Cal l.prog w K mg base 8 "_law_both" (sp_l_both K cl_Sender cl_BearerError cl_NotValid) := ⟨f28, _, _, ok_l_both F28 T_Sender X_BearerError E_BearerError X_NotValid E_NotValid xm_NotValid_BearerError xk_NotValid_NotValid m_bool m_isinstance m_list m_range c_Sender_has_piece c_Sender_put c_Sender_send c_Sender_take_status c_Sender_tick, PySem.W.mg_of X G a28, k28, F28.binds (ps := ["_law_one", "_law_other", "_law_digits_here"]) fun _ _ _ _ _ _ us hl => match us, hl with | [_, _, _], _ => rfl⟩
  have q_law := ok_law (P := l.prog) (w := w) (base := base) F29 T_Sender X_BearerError E_BearerError X_NotValid E_NotValid xm_NotValid_BearerError xk_NotValid_NotValid m_int m_len m_min m_range c_Sender___init__ c_Sender_is_idle c_Sender_unconfirmed c_Sender_waiting c_l_both c_l_cell c_l_digits c_l_many
  exact q_law
end MyLaw
open PySem PySem.W PyProof.Rows
set_option maxHeartbeats 0 in
theorem PySem.Challenge.cw_bearerwise_k36_senders_that_have_a_piece_holds : PySem.Challenge.rw_bearerwise_k36_senders_that_have_a_piece.Holds := by
  w_on; o_law; k_head; (case hw => w_witness2)
  k_fill
  refine L2.walk_of (l := PySem.Challenge.rw_bearerwise_k36_senders_that_have_a_piece) (n := 63) (k := 9) (x := "_law_script") (CX := fun _ => L2.CX0) (sp := fun w => MyLaw.sp_law _ 0 0 0) rfl (by decide) rfl ⟨rfl, by decide, by decide⟩ (fun w h Y => PySem.W.kIn_of Y) ?F (fun w H a ns hl hO hS => Mr.law_sp hl hS (MyLaw.law_true ns hl)) (fun _ _ _ _ _ h => h)
  case F =>
    intro w mg fa h KX G hmg
    refine' MyLaw.all_mk KX G hmg ?aC_BearerError ?xq_BearerError ?kc_BearerError ?xb_BearerError ?xt_BearerError ?xg_BearerError ?xh_BearerError ?xd_BearerError ?xa_BearerError ?xn_BearerError ?xz_BearerError ?xo_BearerError ?aC_NotValid ?xq_NotValid ?kc_NotValid ?xb_NotValid ?xt_NotValid ?xg_NotValid ?xh_NotValid ?xd_NotValid ?xa_NotValid ?xn_NotValid ?xz_NotValid ?xo_NotValid ?xs_NotValid_BearerError ?xs_NotValid_NotValid ?aC_Sender ?pg_Sender ?hd_Sender ?po_Sender ?sa_Sender ?mk_Sender ?kc_Sender ?na_Sender_bits ?na_Sender_window ?na_Sender_low ?na_Sender_next ?na_Sender_queue ?na_Sender_kept ?na_Sender_sent ?na_Sender_again ?na_Sender_silent ?a0 ?l0 ?c0 ?k0 ?a1 ?l1 ?c1 ?k1 ?a2 ?l2 ?c2 ?k2 ?a3 ?l3 ?c3 ?k3 ?a4 ?l4 ?c4 ?k4 ?a5 ?l5 ?c5 ?k5 ?a6 ?l6 ?c6 ?k6 ?a7 ?l7 ?c7 ?k7 ?a8 ?i8 ?l8 ?c8 ?k8 ?a9 ?i9 ?l9 ?c9 ?k9 ?a10 ?i10 ?l10 ?c10 ?k10 ?a11 ?i11 ?l11 ?c11 ?k11 ?a12 ?i12 ?l12 ?c12 ?k12 ?a13 ?i13 ?l13 ?c13 ?k13 ?a14 ?i14 ?l14 ?c14 ?k14 ?a15 ?i15 ?l15 ?c15 ?k15 ?a16 ?i16 ?l16 ?c16 ?k16 ?a17 ?i17 ?l17 ?c17 ?k17 ?a18 ?i18 ?l18 ?c18 ?k18 ?a19 ?i19 ?l19 ?c19 ?k19 ?a20 ?i20 ?l20 ?c20 ?k20 ?a21 ?i21 ?l21 ?c21 ?k21 ?a22 ?i22 ?l22 ?c22 ?k22 ?a23 ?i23 ?l23 ?c23 ?k23 ?a24 ?i24 ?l24 ?c24 ?k24 ?a25 ?l25 ?c25 ?k25 ?a26 ?l26 ?c26 ?k26 ?a27 ?l27 ?c27 ?k27 ?a28 ?l28 ?c28 ?k28 ?a29 ?l29 ?c29 ?k29 ?z0 ?z1 ?z2 ?z3 ?z4 ?z5 ?z6 ?z7 ?z8 ?z9 ?z10 ?y0 ?y1 ?y2 ?y3 ?y4 ?y5 ?y6 ?y7
    (case aC_BearerError => k_is); (case xq_BearerError => k_exc); (case kc_BearerError => k_is); (case xb_BearerError => k_is); (case xt_BearerError => k_is); (case xg_BearerError => k_is); (case xh_BearerError => k_is); (case xd_BearerError => k_is); (case xa_BearerError => k_is); (case xn_BearerError => k_is); (case xz_BearerError => k_is); (case xo_BearerError => k_is); (case aC_NotValid => k_is); (case xq_NotValid => k_exc); (case kc_NotValid => k_is); (case xb_NotValid => k_is); (case xt_NotValid => k_is); (case xg_NotValid => k_is); (case xh_NotValid => k_is); (case xd_NotValid => k_is); (case xa_NotValid => k_is); (case xn_NotValid => k_is); (case xz_NotValid => k_is); (case xo_NotValid => k_is); (case xs_NotValid_BearerError => k_is); (case xs_NotValid_NotValid => k_is); (case aC_Sender => k_is); (case pg_Sender => k_is); (case hd_Sender => k_is); (case po_Sender => k_is); (case sa_Sender => k_is); (case mk_Sender => k_is); (case kc_Sender => k_is); (case na_Sender_bits => k_is); (case na_Sender_window => k_is); (case na_Sender_low => k_is); (case na_Sender_next => k_is); (case na_Sender_queue => k_is); (case na_Sender_kept => k_is); (case na_Sender_sent => k_is); (case na_Sender_again => k_is); (case na_Sender_silent => k_is); (case a0 => k_is); (case l0 => k_is); (case c0 => k_is); (case k0 => k_is); (case a1 => k_is); (case l1 => k_is); (case c1 => k_is); (case k1 => k_is); (case a2 => k_is); (case l2 => k_is); (case c2 => k_is); (case k2 => k_is); (case a3 => k_is); (case l3 => k_is); (case c3 => k_is); (case k3 => k_is); (case a4 => k_is); (case l4 => k_is); (case c4 => k_is); (case k4 => k_is); (case a5 => k_is); (case l5 => k_is); (case c5 => k_is); (case k5 => k_is); (case a6 => k_is); (case l6 => k_is); (case c6 => k_is); (case k6 => k_is); (case a7 => k_is); (case l7 => k_is); (case c7 => k_is); (case k7 => k_is); (case a8 => k_is); (case i8 => k_is); (case l8 => k_is); (case c8 => k_is); (case k8 => k_is); (case a9 => k_is); (case i9 => k_is); (case l9 => k_is); (case c9 => k_is); (case k9 => k_is); (case a10 => k_is); (case i10 => k_is); (case l10 => k_is); (case c10 => k_is); (case k10 => k_is); (case a11 => k_is); (case i11 => k_is); (case l11 => k_is); (case c11 => k_is); (case k11 => k_is); (case a12 => k_is); (case i12 => k_is); (case l12 => k_is); (case c12 => k_is); (case k12 => k_is); (case a13 => k_is); (case i13 => k_is); (case l13 => k_is); (case c13 => k_is); (case k13 => k_is); (case a14 => k_is); (case i14 => k_is); (case l14 => k_is); (case c14 => k_is); (case k14 => k_is); (case a15 => k_is); (case i15 => k_is); (case l15 => k_is); (case c15 => k_is); (case k15 => k_is); (case a16 => k_is); (case i16 => k_is); (case l16 => k_is); (case c16 => k_is); (case k16 => k_is); (case a17 => k_is); (case i17 => k_is); (case l17 => k_is); (case c17 => k_is); (case k17 => k_is); (case a18 => k_is); (case i18 => k_is); (case l18 => k_is); (case c18 => k_is); (case k18 => k_is); (case a19 => k_is); (case i19 => k_is); (case l19 => k_is); (case c19 => k_is); (case k19 => k_is); (case a20 => k_is); (case i20 => k_is); (case l20 => k_is); (case c20 => k_is); (case k20 => k_is); (case a21 => k_is); (case i21 => k_is); (case l21 => k_is); (case c21 => k_is); (case k21 => k_is); (case a22 => k_is); (case i22 => k_is); (case l22 => k_is); (case c22 => k_is); (case k22 => k_is); (case a23 => k_is); (case i23 => k_is); (case l23 => k_is); (case c23 => k_is); (case k23 => k_is); (case a24 => k_is); (case i24 => k_is); (case l24 => k_is); (case c24 => k_is); (case k24 => k_is); (case a25 => k_is); (case l25 => k_is); (case c25 => k_is); (case k25 => k_is); (case a26 => k_is); (case l26 => k_is); (case c26 => k_is); (case k26 => k_is); (case a27 => k_is); (case l27 => k_is); (case c27 => k_is); (case k27 => k_is); (case a28 => k_is); (case l28 => k_is); (case c28 => k_is); (case k28 => k_is); (case a29 => k_is); (case l29 => k_is); (case c29 => k_is); (case k29 => k_is); (case z0 => k_is); (case z1 => k_is); (case z2 => k_is); (case z3 => k_is); (case z4 => k_is); (case z5 => k_is); (case z6 => k_is); (case z7 => k_is); (case z8 => k_is); (case z9 => k_is); (case z10 => k_is); (case y0 => k_is); (case y1 => k_is); (case y2 => k_is); (case y3 => k_is); (case y4 => k_is); (case y5 => k_is); (case y6 => k_is); (case y7 => k_is)
