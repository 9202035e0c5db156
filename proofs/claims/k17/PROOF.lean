import PyProof.Rows.All
import Wide.All
import OpenK.AllK
import Wide.FinOn
import HandS.ForMost
import HandS.Evl
import HandS.IsInst
import HandS.Wide
import HandS.More
import HandS.SetFor
import HandS.Text
import PySem.Challenge.RW_bearerwise_k17_judging_packets_and_bills
set_option Elab.async false
set_option linter.all false
set_option maxRecDepth 100000
set_option Elab.async false
set_option linter.all false
set_option maxRecDepth 100000
namespace Mr
open PySem PySem.Spec PyProof.Rows L2

/-! ### heaps -/
def Ex (H H' : Hp) : Prop := ∀ a o, H a = some o → H' a = some o
theorem Ex.refl (H : Hp) : Ex H H := fun _ _ h => h
theorem Ex.trans {H H1 H2 : Hp} (a : Ex H H1) (b : Ex H1 H2) : Ex H H2 := fun x o h => b x o (a x o h)
theorem Ex.new {H : Hp} {p : Addr} {o : HO} (h : H p = none) : Ex H (upd H p o) := fun a u e => by
  rw [upd_ne (ne_of_none e h)]
  exact e
theorem Ex.rd {H H' : Hp} {a : Addr} {u : HO} (e : Ex H H') (h : Rd H a u) : Rd H' a u := by
  rcases h with h | ⟨o, h⟩
  · exact Or.inl (e a _ h)
  · exact Or.inr ⟨o, e a _ h⟩
theorem Ex.sl {K : PySem.W.Frag} {H H' : Hp} {a : Addr} {xs : List V} (e : Ex H H') (h : SqL K H a xs) : SqL K H' a xs := by
  rcases h with h | h
  · exact Or.inl (e.rd h)
  · exact Or.inr h
theorem Ex.st {K : PySem.W.Frag} {H H' : Hp} {a : Addr} {xs : List V} (e : Ex H H') (h : SqT K H a xs) : SqT K H' a xs := by
  rcases h with h | h
  · exact Or.inl (e.rd h)
  · exact Or.inr h

/-! ### pure data: lists that stay in the heap G, tuples, scalars -/
mutual
inductive Dq (K : PySem.W.Frag) (G : Hp) : V → PyData → Prop
  | non : Dq K G .non .none
  | bl (b : Bool) : Dq K G (.bl b) (.bool b)
  | int (i : Int) : Dq K G (.int i) (.int i)
  | str (x : Str) : Dq K G (.str x) (.str x)
  | lst {a : Addr} {xs : List V} {ds : List PyData} : G a = some (.lst xs) → DqAll K G xs ds → Dq K G (.ref a) (.list ds)
  | tup {a : Addr} {xs : List V} {ds : List PyData} : SqT K G a xs → DqAll K G xs ds → Dq K G (.ref a) (.tuple ds)
inductive DqAll (K : PySem.W.Frag) (G : Hp) : List V → List PyData → Prop
  | nil : DqAll K G [] []
  | cons {v : V} {vs : List V} {d : PyData} {ds : List PyData} : Dq K G v d → DqAll K G vs ds → DqAll K G (v :: vs) (d :: ds)
end
section
variable {K : PySem.W.Frag} {G G' H : Hp}
mutual
theorem Dq.mono (e : Ex G G') : ∀ (d : PyData) (v : V), Dq K G v d → Dq K G' v d
  | .none, _, h => by cases h; exact .non
  | .bool b, _, h => by cases h; exact .bl b
  | .int i, _, h => by cases h; exact .int i
  | .str x, _, h => by cases h; exact .str x
  | .list ds, _, h => by
    cases h with
    | lst h1 h2 => exact .lst (e _ _ h1) (DqAll.mono e ds _ h2)
  | .tuple ds, _, h => by
    cases h with
    | tup h1 h2 => exact .tup (e.st h1) (DqAll.mono e ds _ h2)
  | .dict _, _, h => by cases h
theorem DqAll.mono (e : Ex G G') : ∀ (ds : List PyData) (vs : List V), DqAll K G vs ds → DqAll K G' vs ds
  | [], _, h => by cases h; exact .nil
  | d :: ds, _, h => by
    cases h with
    | cons h1 h2 => exact .cons (Dq.mono e d _ h1) (DqAll.mono e ds _ h2)
end
mutual
theorem Dq.dp : ∀ (d : PyData) (v : V), Dq K G v d → Dp K G v d
  | .none, _, h => by cases h; exact .non
  | .bool b, _, h => by cases h; exact .bl b
  | .int i, _, h => by cases h; exact .int i
  | .str x, _, h => by cases h; exact .str x
  | .list ds, _, h => by
    cases h with
    | lst h1 h2 => exact .lst (.inl (.inl h1)) (DqAll.dp ds _ h2)
  | .tuple ds, _, h => by
    cases h with
    | tup h1 h2 => exact .tup h1 (DqAll.dp ds _ h2)
  | .dict _, _, h => by cases h
theorem DqAll.dp : ∀ (ds : List PyData) (vs : List V), DqAll K G vs ds → DpAll K G vs ds
  | [], _, h => by cases h; exact .nil
  | d :: ds, _, h => by
    cases h with
    | cons h1 h2 => exact .cons (Dq.dp d _ h1) (DqAll.dp ds _ h2)
end
theorem DqAll.len : ∀ {ds : List PyData} {vs : List V}, DqAll K G vs ds → vs.length = ds.length
  | [], _, h => by cases h; rfl
  | d :: ds, _, h => by
    cases h with
    | cons h1 h2 => exact congrArg (· + 1) h2.len
theorem DqAll.get : ∀ {ds : List PyData} {vs : List V} {i : Nat} {d : PyData}, DqAll K G vs ds → ds[i]? = some d → ∃ v, vs[i]? = some v ∧ Dq K G v d
  | [], _, _, _, h, e => by simp at e
  | d :: ds, _, 0, _, h, e => by
    cases h with
    | cons h1 h2 => simp at e; subst e; exact ⟨_, rfl, h1⟩
  | d :: ds, _, i + 1, _, h, e => by
    cases h with
    | cons h1 h2 =>
      obtain ⟨v, a, b⟩ := h2.get (i := i) (by simpa using e)
      exact ⟨v, by simpa using a, b⟩
theorem DqAll.append : ∀ {ds es : List PyData} {vs us : List V}, DqAll K G vs ds → DqAll K G us es → DqAll K G (vs ++ us) (ds ++ es)
  | [], _, _, _, h, q => by cases h; exact q
  | d :: ds, _, _, _, h, q => by
    cases h with
    | cons h1 h2 => exact .cons h1 (h2.append q)
theorem DqAll.take : ∀ {ds : List PyData} {vs : List V} (n : Nat), DqAll K G vs ds → DqAll K G (vs.take n) (ds.take n)
  | _, _, 0, _ => .nil
  | [], _, _ + 1, h => by cases h; exact .nil
  | d :: ds, _, n + 1, h => by
    cases h with
    | cons h1 h2 => exact .cons h1 (h2.take n)
theorem DqAll.drop : ∀ {ds : List PyData} {vs : List V} (n : Nat), DqAll K G vs ds → DqAll K G (vs.drop n) (ds.drop n)
  | _, _, 0, h => h
  | [], _, _ + 1, h => by cases h; exact .nil
  | d :: ds, _, n + 1, h => by
    cases h with
    | cons h1 h2 => exact h2.drop n
end

/-! ### assertions: what stands at a value; F the addresses that it owns -/
structure OA where
  P : Hp → Hp → V → List Addr → Prop
  mono : ∀ {G H G' H' : Hp} {v : V} {F : List Addr}, P G H v F → Ex G G' → Ex G' H' → (∀ b ∈ F, ∀ o, H b = some o → H' b = some o) → P G' H' v F
/-- the cells of a list of assertions at a list of values -/
def Cs (G H : Hp) : List (Option OA) → List (Option V) → List Addr → Prop
  | [], [], F => F = []
  | none :: ρ, _ :: σ, F => Cs G H ρ σ F
  | some A :: ρ, x :: σ, F => ∃ v F1 F2, x = some v ∧ F = F1 ++ F2 ∧ A.P G H v F1 ∧ Cs G H ρ σ F2
  | _, _, _ => False
theorem Cs.mono {G H G' H' : Hp} (e : Ex G G') (e' : Ex G' H') : ∀ {ρ : List (Option OA)} {σ : List (Option V)} {F : List Addr}, Cs G H ρ σ F → (∀ b ∈ F, ∀ o, H b = some o → H' b = some o) → Cs G' H' ρ σ F
  | [], [], _, h, _ => h
  | [], _ :: _, _, h, _ => h.elim
  | none :: _, [], _, h, _ => h.elim
  | some _ :: _, [], _, h, _ => h.elim
  | none :: ρ, _ :: σ, _, h, k => Cs.mono e e' (ρ := ρ) (σ := σ) h k
  | some A :: ρ, x :: σ, _, h, k => by
    obtain ⟨v, F1, F2, e1, e2, a, c⟩ := h
    subst e2
    exact ⟨v, F1, F2, e1, rfl, A.mono a e e' fun b hb => k b (List.mem_append_left _ hb), Cs.mono e e' c fun b hb => k b (List.mem_append_right _ hb)⟩
theorem Cs.len {G H : Hp} : ∀ {ρ : List (Option OA)} {σ : List (Option V)} {F : List Addr}, Cs G H ρ σ F → ρ.length = σ.length
  | [], [], _, _ => rfl
  | [], _ :: _, _, h => h.elim
  | none :: _, [], _, h => h.elim
  | some _ :: _, [], _, h => h.elim
  | none :: ρ, _ :: σ, _, h => congrArg (· + 1) (Cs.len (ρ := ρ) (σ := σ) h)
  | some A :: ρ, x :: σ, _, h => by
    obtain ⟨v, F1, F2, e1, e2, a, c⟩ := h
    exact congrArg (· + 1) c.len
/-- one cell is taken out -/
theorem Cs.split {G H : Hp} : ∀ {ρ : List (Option OA)} {σ : List (Option V)} {F : List Addr} {i : Nat} {A : OA}, Cs G H ρ σ F → ρ[i]? = some (some A) →
    ∃ v F1 F2, σ[i]? = some (some v) ∧ F.Perm (F1 ++ F2) ∧ A.P G H v F1 ∧ Cs G H (ρ.set i none) σ F2
  | [], _, _, _, _, _, e => by simp at e
  | none :: _, [], _, _, _, h, _ => h.elim
  | some _ :: _, [], _, _, _, h, _ => h.elim
  | none :: ρ, x :: σ, F, 0, A, h, e => by simp at e
  | none :: ρ, x :: σ, F, i + 1, A, h, e => by
    obtain ⟨v, F1, F2, a, b, c, d⟩ := Cs.split (ρ := ρ) (σ := σ) (i := i) (A := A) h (by simpa using e)
    exact ⟨v, F1, F2, by simpa using a, b, c, d⟩
  | some B :: ρ, x :: σ, F, 0, A, h, e => by
    obtain ⟨v, F1, F2, e1, e2, a, c⟩ := h
    simp at e
    subst e e1 e2
    exact ⟨v, F1, F2, rfl, .refl _, a, c⟩
  | some B :: ρ, x :: σ, F, i + 1, A, h, e => by
    obtain ⟨v, F1, F2, e1, e2, a, c⟩ := h
    obtain ⟨u, F3, F4, b1, b2, b3, b4⟩ := Cs.split (i := i) (A := A) c (by simpa using e)
    subst e1 e2
    refine ⟨u, F3, F1 ++ F4, by simpa using b1, ?_, b3, v, F1, F4, rfl, rfl, a, b4⟩
    refine (List.Perm.append_left F1 b2).trans ?_
    rw [← List.append_assoc, ← List.append_assoc]
    exact List.Perm.append_right F4 List.perm_append_comm
/-- one cell is put in -/
theorem Cs.join {G H : Hp} : ∀ {ρ : List (Option OA)} {σ : List (Option V)} {F2 : List Addr} {i : Nat} {A : OA} {v : V} {F1 : List Addr}, Cs G H (ρ.set i none) σ F2 → i < ρ.length → A.P G H v F1 →
    ∃ F, F.Perm (F1 ++ F2) ∧ Cs G H (ρ.set i (some A)) (σ.set i (some v)) F
  | [], _, _, _, _, _, _, _, l, _ => by simp at l
  | _ :: ρ, [], _, 0, _, _, _, h, _, _ => h.elim
  | none :: ρ, [], _, i + 1, _, _, _, h, _, _ => h.elim
  | some _ :: ρ, [], _, i + 1, _, _, _, h, _, _ => h.elim
  | _ :: ρ, x :: σ, F2, 0, A, v, F1, h, _, a => ⟨F1 ++ F2, .refl _, v, F1, F2, rfl, rfl, a, h⟩
  | none :: ρ, x :: σ, F2, i + 1, A, v, F1, h, l, a => by
    obtain ⟨F, p, q⟩ := Cs.join (ρ := ρ) (σ := σ) (i := i) (A := A) (v := v) (F1 := F1) (F2 := F2) h (by simpa using l) a
    exact ⟨F, p, q⟩
  | some B :: ρ, x :: σ, F2, i + 1, A, v, F1, h, l, a => by
    obtain ⟨u, F3, F4, e1, e2, b, c⟩ := h
    obtain ⟨F, p, q⟩ := Cs.join (ρ := ρ) (σ := σ) (i := i) (A := A) (v := v) (F1 := F1) (F2 := F4) c (by simpa using l) a
    subst e1 e2
    refine ⟨F3 ++ F, ?_, u, F3, F, rfl, rfl, b, q⟩
    refine (List.Perm.append_left F3 p).trans ?_
    rw [← List.append_assoc, ← List.append_assoc]
    exact List.Perm.append_right F4 List.perm_append_comm
theorem Cs.forget {G H : Hp} : ∀ {ρ : List (Option OA)} {σ : List (Option V)} {F : List Addr} {i : Nat} {x : Option V}, Cs G H ρ σ F → ∃ F', F'.Sublist F ∧ Cs G H (ρ.set i none) (σ.set i x) F'
  | [], [], F, _, _, h => ⟨F, .refl _, h⟩
  | [], _ :: _, _, _, _, h => h.elim
  | none :: _, [], _, _, _, h => h.elim
  | some _ :: _, [], _, _, _, h => h.elim
  | none :: ρ, y :: σ, F, 0, x, h => ⟨F, .refl _, h⟩
  | some A :: ρ, y :: σ, F, 0, x, h => by
    obtain ⟨v, F1, F2, e1, e2, a, c⟩ := h
    subst e2
    exact ⟨F2, List.sublist_append_right _ _, c⟩
  | none :: ρ, y :: σ, F, i + 1, x, h => by
    obtain ⟨F', s, c⟩ := Cs.forget (ρ := ρ) (σ := σ) (i := i) (x := x) h
    exact ⟨F', s, c⟩
  | some A :: ρ, y :: σ, F, i + 1, x, h => by
    obtain ⟨v, F1, F2, e1, e2, a, c⟩ := h
    obtain ⟨F', s, q⟩ := Cs.forget (i := i) (x := x) c
    subst e1 e2
    exact ⟨F1 ++ F', List.Sublist.append_left s F1, v, F1, F', rfl, rfl, a, q⟩
theorem Cs.append {G H : Hp} : ∀ {ρ1 ρ2 : List (Option OA)} {σ1 σ2 : List (Option V)} {F1 F2 : List Addr}, Cs G H ρ1 σ1 F1 → Cs G H ρ2 σ2 F2 → Cs G H (ρ1 ++ ρ2) (σ1 ++ σ2) (F1 ++ F2)
  | [], _, [], _, _, _, h, q => by
    have e : _ = [] := h
    subst e
    exact q
  | [], _, _ :: _, _, _, _, h, _ => h.elim
  | none :: _, _, [], _, _, _, h, _ => h.elim
  | some _ :: _, _, [], _, _, _, h, _ => h.elim
  | none :: ρ, _, y :: σ, _, _, _, h, q => Cs.append (ρ1 := ρ) (σ1 := σ) h q
  | some A :: ρ, _, y :: σ, _, _, _, h, q => by
    obtain ⟨v, F1, F2, e1, e2, a, c⟩ := h
    subst e2
    exact ⟨v, F1, _, e1, List.append_assoc _ _ _, a, c.append q⟩
theorem Cs.unappend {G H : Hp} : ∀ {ρ1 ρ2 : List (Option OA)} {σ1 σ2 : List (Option V)} {F : List Addr}, ρ1.length = σ1.length → Cs G H (ρ1 ++ ρ2) (σ1 ++ σ2) F → ∃ F1 F2, F = F1 ++ F2 ∧ Cs G H ρ1 σ1 F1 ∧ Cs G H ρ2 σ2 F2
  | [], _, [], _, F, _, h => ⟨[], F, rfl, rfl, h⟩
  | [], _, _ :: _, _, _, l, _ => by simp at l
  | _ :: _, _, [], _, _, l, _ => by simp at l
  | none :: ρ, ρ2, y :: σ, σ2, F, l, h => by
    obtain ⟨F1, F2, a, b, c⟩ := Cs.unappend (ρ1 := ρ) (ρ2 := ρ2) (σ1 := σ) (σ2 := σ2) (F := F) (by simpa using l) h
    exact ⟨F1, F2, a, b, c⟩
  | some A :: ρ, ρ2, y :: σ, σ2, F, l, h => by
    obtain ⟨v, F1, F2, e1, e2, a, c⟩ := h
    obtain ⟨F3, F4, q1, q2, q3⟩ := Cs.unappend (by simpa using l) c
    subst e2 q1
    exact ⟨F1 ++ F3, F4, (List.append_assoc _ _ _).symm, ⟨v, F1, F3, e1, rfl, a, q2⟩, q3⟩

/-! ### what stands behind a run: E its entry; G what is known to stay, F what is owned -/
structure Ent where
  G : Hp
  H : Hp
  F : List Addr
structure Frm (E : Ent) (G H : Hp) (F : List Addr) : Prop where
  gg : Ex E.G G
  gh : Ex G H
  nd : F.Nodup
  dis : ∀ b ∈ F, G b = none
  live : ∀ b ∈ F, H b ≠ none
  keep : ∀ b o, E.H b = some o → b ∉ E.F → H b = some o
  fp : ∀ b ∈ F, b ∈ E.F ∨ E.H b = none
  gn : ∀ b o, G b = some o → E.G b = none → b ∈ E.F ∨ E.H b = none
theorem Frm.perm {E : Ent} {G H : Hp} {F F' : List Addr} (h : Frm E G H F) (p : F.Perm F') : Frm E G H F' :=
  ⟨h.gg, h.gh, (p.nodup_iff).mp h.nd, fun b hb => h.dis b (p.mem_iff.mpr hb), fun b hb => h.live b (p.mem_iff.mpr hb), h.keep, fun b hb => h.fp b (p.mem_iff.mpr hb), h.gn⟩
theorem Frm.less {E : Ent} {G H : Hp} {F F' : List Addr} (h : Frm E G H F) (p : F'.Sublist F) : Frm E G H F' :=
  ⟨h.gg, h.gh, h.nd.sublist p, fun b hb => h.dis b (p.subset hb), fun b hb => h.live b (p.subset hb), h.keep, fun b hb => h.fp b (p.subset hb), h.gn⟩
theorem Frm.start {E : Ent} {G H : Hp} {F : List Addr} (h : Frm E G H F) : Frm ⟨G, H, F⟩ G H F :=
  ⟨.refl _, h.gh, h.nd, h.dis, h.live, fun _ _ q _ => q, fun _ hb => .inl hb, fun b o q n => by rw [show G b = none from n] at q; cases q⟩
theorem Frm.old {E : Ent} {G H : Hp} {F : List Addr} (h : Frm E G H F) {b : Addr} (n : H b = none) : b ∈ E.F ∨ E.H b = none := by
  cases q : E.H b with
  | none => exact .inr rfl
  | some o =>
    by_cases hb : b ∈ E.F
    · exact .inl hb
    · rw [h.keep b o q hb] at n; cases n
/-- a step with a part of what is owned -/
theorem Frm.step {E : Ent} {G H G' H' : Hp} {F Fa Fr Fb : List Addr} (h : Frm E G H F) (p : F.Perm (Fa ++ Fr)) (s : Frm ⟨G, H, Fa⟩ G' H' Fb) : Frm E G' H' (Fb ++ Fr) ∧ ∀ b ∈ Fr, ∀ o, H b = some o → H' b = some o := by
  have h' := h.perm p
  have apart : ∀ b ∈ Fr, b ∉ Fa := fun b hb ha => (List.nodup_append.mp h'.nd).2.2 b ha b hb rfl
  have stay : ∀ b ∈ Fr, ∀ o, H b = some o → H' b = some o := fun b hb o q => s.keep b o q (apart b hb)
  have lv : ∀ b ∈ Fr, H b ≠ none := fun b hb => h'.live b (List.mem_append_right _ hb)
  have apart' : ∀ b ∈ Fr, b ∉ Fb := fun b hb ha => by
    rcases s.fp b ha with q | q
    · exact apart b hb q
    · exact lv b hb q
  refine ⟨⟨h.gg.trans s.gg, s.gh, ?_, fun b hb => ?_, fun b hb => ?_, fun b o q n => ?_, fun b hb => ?_, fun b o q n => ?_⟩, stay⟩
  · refine List.nodup_append.mpr ⟨s.nd, (List.nodup_append.mp h'.nd).2.1, fun a ha b hb e => ?_⟩
    subst e
    exact apart' a hb ha
  · rcases List.mem_append.mp hb with hb | hb
    · exact s.dis b hb
    · cases q : G' b with
      | none => rfl
      | some o =>
        rcases s.gn b o q (h'.dis b (List.mem_append_right _ hb)) with z | z
        · exact absurd z (apart b hb)
        · exact absurd z (lv b hb)
  · rcases List.mem_append.mp hb with hb | hb
    · exact s.live b hb
    · cases q : H b with
      | none => exact absurd q (lv b hb)
      | some o => rw [stay b hb o q]; simp
  · have q1 := h.keep b o q n
    refine s.keep b o q1 fun ha => ?_
    rcases h'.fp b (List.mem_append_left _ ha) with z | z
    · exact n z
    · rw [q] at z; cases z
  · rcases List.mem_append.mp hb with hb | hb
    · rcases s.fp b hb with z | z
      · exact h'.fp b (List.mem_append_left _ z)
      · exact h.old z
    · exact h'.fp b (List.mem_append_right _ hb)
  · cases q1 : G b with
    | some u => exact h.gn b u q1 n
    | none =>
      rcases s.gn b o q q1 with z | z
      · exact h'.fp b (List.mem_append_left _ z)
      · exact h.old z
/-- small steps -/
theorem Frm.alloc {G H : Hp} {p : Addr} {o : HO} (e : Ex G H) (n : H p = none) : Frm ⟨G, H, []⟩ G (upd H p o) [p] where
  gg := .refl _
  gh := e.trans (.new n)
  nd := by simp
  dis := fun b hb => by
    have e1 : b = p := by simpa using hb
    subst e1
    cases q : G b with
    | none => rfl
    | some u => rw [e b u q] at n; cases n
  live := fun b hb => by
    have e1 : b = p := by simpa using hb
    subst e1
    rw [upd_same]; simp
  keep := fun b u q _ => Ex.new n b u q
  fp := fun b hb => by
    have e1 : b = p := by simpa using hb
    subst e1
    exact .inr n
  gn := fun b u q n' => by rw [show G b = none from n'] at q; cases q
/-- a new object that stays -/
theorem Frm.allocG {G H : Hp} {p : Addr} {o : HO} (e : Ex G H) (n : H p = none) : Frm ⟨G, H, []⟩ (upd G p o) (upd H p o) [] := by
  have gn : G p = none := by
    cases q : G p with
    | none => rfl
    | some u => rw [e p u q] at n; cases n
  refine ⟨.new gn, fun b u q => ?_, by simp, fun b hb => by simp at hb, fun b hb => by simp at hb, fun b u q _ => Ex.new n b u q, fun b hb => by simp at hb, fun b u q n' => ?_⟩
  · by_cases hb : b = p
    · subst hb; rw [upd_same] at q ⊢; exact q
    · rw [upd_ne hb] at q ⊢; exact e b u q
  · by_cases hb : b = p
    · subst hb; exact .inr n
    · rw [upd_ne hb, show G b = none from n'] at q; cases q
/-- an owned object stays from now on -/
theorem Frm.freeze {G H : Hp} {p : Addr} {o : HO} (e : Ex G H) (g : G p = none) (h : H p = some o) : Frm ⟨G, H, [p]⟩ (upd G p o) H [] := by
  refine ⟨.new g, fun b u q => ?_, by simp, fun b hb => by simp at hb, fun b hb => by simp at hb, fun b u q _ => q, fun b hb => by simp at hb, fun b u q n' => ?_⟩
  · by_cases hb : b = p
    · subst hb; rw [upd_same] at q; cases q; exact h
    · rw [upd_ne hb] at q; exact e b u q
  · by_cases hb : b = p
    · exact .inl (by simp [hb])
    · rw [upd_ne hb, show G b = none from n'] at q; cases q
/-- an owned object is changed -/
theorem Frm.write {G H : Hp} {p : Addr} {o : HO} {F : List Addr} (b0 : Frm ⟨G, H, p :: F⟩ G H (p :: F)) : Frm ⟨G, H, p :: F⟩ G (upd H p o) (p :: F) where
  gg := .refl _
  gh := fun b u q => by
    have n : b ≠ p := fun z => by
      subst z
      rw [b0.dis b (by simp)] at q; cases q
    rw [upd_ne n]; exact b0.gh b u q
  nd := b0.nd
  dis := b0.dis
  live := fun b hb => by
    by_cases z : b = p
    · subst z; rw [upd_same]; simp
    · rw [upd_ne z]; exact b0.live b hb
  keep := fun b u q n => by
    have z : b ≠ p := fun z => n (by simp [z])
    rw [upd_ne z]; exact q
  fp := fun b hb => .inl hb
  gn := fun b u q n => by rw [show G b = none from n] at q; cases q

/-! ### the state of a run: ρ what is known of the cells σ -/
def ST (E : Ent) (ρ : List (Option OA)) (σ : List (Option V)) (H : Hp) : Prop := ∃ G F, Frm E G H F ∧ Cs G H ρ σ F
end Mr

set_option Elab.async false
set_option linter.all false
set_option maxRecDepth 100000
namespace Mr
open PySem PySem.Spec PyProof.Rows L2

abbrev Cl := List (Option OA)

/-! ### the weakest readings -/
def wE (X : Cx) (e : Expr) : TE := fun σ H Q => ∀ pins s, Inv X pins σ H s → wpAny (model X.prog X.w) X.A (eval e X.env) (EP X pins σ Q) X.xe s
def wT (X : Cx) (e : Expr) : TT := fun σ H Q => ∀ pins s, Inv X pins σ H s → wpAny (model X.prog X.w) X.A (isTrue e X.env (eval e X.env)) (TP X pins σ Q) X.xe s
def wW (X : Cx) (e : Expr) : TT := fun σ H Q => ∀ whole pins s, Inv X pins σ H s → wpAny (model X.prog X.w) X.A (isTrue e X.env whole) (TP X pins σ Q) X.xe s
def wA (X : Cx) (es : List Expr) : TA := fun σ H Q => ∀ pos pins s, Inv X pins σ H s → wpAny (model X.prog X.w) X.A (spliced (backTo pos (starEach es X.env))) (AP X pins σ Q) X.xe s
def wS (X : Cx) (sts : List Stmt) : TS := fun D σ H => ∀ pins s, Inv X pins σ H s → wpAny (model X.prog X.w) X.A (execs sts X.env) (SP X pins D) X.xe s
section
variable {X : Cx} {e : Expr} {es : List Expr} {st : Stmt} {sts : List Stmt} {σ : L2.St} {H : Hp}
theorem peS : PE X e (wE X e) := ⟨fun pins s _ _ _ I h => h pins s I⟩
theorem ptS : PT X e (wT X e) := ⟨fun pins s _ _ _ I h => h pins s I⟩
theorem pwS : PW X e (wW X e) := ⟨fun wh pins s _ _ _ I h => h wh pins s I⟩
theorem paS : PA X es (wA X es) := ⟨fun p pins s _ _ _ I h => h p pins s I⟩
theorem pssS : PSs X sts (wS X sts) := ⟨fun pins s _ _ _ I h => h pins s I⟩
theorem wE.of {t : TE} (h : PE X e t) {Q : VK} (q : t σ H Q) : wE X e σ H Q := fun pins s I => h.run pins s σ H Q I q
theorem wT.of {t : TT} (h : PT X e t) {Q : Bool → Hp → Prop} (q : t σ H Q) : wT X e σ H Q := fun pins s I => h.run pins s σ H Q I q
theorem wW.of {t : TT} (h : PW X e t) {Q : Bool → Hp → Prop} (q : t σ H Q) : wW X e σ H Q := fun wh pins s I => h.run wh pins s σ H Q I q
theorem wA.of {t : TA} (h : PA X es t) {Q : List V → Hp → Prop} (q : t σ H Q) : wA X es σ H Q := fun p pins s I => h.run p pins s σ H Q I q
theorem wS.of {t : TS} (h : PSs X sts t) {D : Ends} (q : t D σ H) : wS X sts D σ H := fun pins s I => h.run pins s σ H D I q
end

/-! ### assertions -/
def aD (K : PySem.W.Frag) (d : PyData) : OA := ⟨fun G _ v F => Dq K G v d ∧ F = [], fun h e _ _ => ⟨Dq.mono e _ _ h.1, h.2⟩⟩
def aV (v0 : V) : OA := ⟨fun _ _ v F => v = v0 ∧ F = [], fun h _ _ _ => h⟩
def pin (v0 : V) (A : OA) : OA := ⟨fun G H v F => v = v0 ∧ A.P G H v F, fun h e e' k => ⟨h.1, A.mono h.2 e e' k⟩⟩
/-- an owned list of things -/
def aL (As : List OA) : OA := ⟨fun G H v F => ∃ p vs F', v = .ref p ∧ F = p :: F' ∧ H p = some (.lst vs) ∧ Cs G H (As.map some) (vs.map some) F', fun h e e' k => by
  obtain ⟨p, vs, F', e1, e2, h1, c⟩ := h
  subst e2
  exact ⟨p, vs, F', e1, rfl, k p (by simp) _ h1, c.mono e e' fun b hb => k b (by simp [hb])⟩⟩
/-- an owned list of pure data -/
abbrev aLD (K : PySem.W.Frag) (ds : List PyData) : OA := aL (ds.map (aD K))
/-- a list that may be read (the script) -/
def aR (K : PySem.W.Frag) (ds : List PyData) : OA := ⟨fun G _ v F => (∃ a xs, v = .ref a ∧ SqL K G a xs ∧ DqAll K G xs ds) ∧ F = [], fun h e _ _ => by
  obtain ⟨⟨a, xs, e1, e2, e3⟩, e4⟩ := h
  exact ⟨⟨a, xs, e1, e.sl e2, DqAll.mono e _ _ e3⟩, e4⟩⟩

theorem csD {K : PySem.W.Frag} {G H : Hp} : ∀ {ds : List PyData} {vs : List V} {F : List Addr}, Cs G H ((ds.map (aD K)).map some) (vs.map some) F → DqAll K G vs ds ∧ F = []
  | [], [], _, h => ⟨.nil, h⟩
  | [], _ :: _, _, h => h.elim
  | _ :: _, [], _, h => h.elim
  | d :: ds, x :: vs, F, h => by
    obtain ⟨v, F1, F2, e1, e2, a, c⟩ := h
    obtain ⟨q1, q2⟩ := csD (ds := ds) (vs := vs) c
    cases e1
    obtain ⟨a1, a2⟩ := a
    subst e2 a2 q2
    exact ⟨.cons a1 q1, rfl⟩
theorem csD' {K : PySem.W.Frag} {G H : Hp} : ∀ {ds : List PyData} {vs : List V}, DqAll K G vs ds → Cs G H ((ds.map (aD K)).map some) (vs.map some) []
  | [], _, h => by cases h; exact rfl
  | d :: ds, _, h => by
    cases h with
    | cons h1 h2 => exact ⟨_, [], [], rfl, rfl, ⟨h1, rfl⟩, csD' h2⟩

/-! ### judgements -/
/-- the expression e, where ρ is known, gives a thing of which A holds, and leaves ρ' -/
def XE (X : Cx) (e : Expr) (ρ ρ' : Cl) (A : OA) : Prop := ∀ (E : Ent) (T : Cl) (t σ : L2.St) (H : Hp), T.length = t.length → ST E (T ++ ρ) (t ++ σ) H →
  ∀ Q : VK, (∀ v H', ST E (some A :: (T ++ ρ')) (some v :: (t ++ σ)) H' → Q v H') → wE X e σ H Q
def XT (X : Cx) (e : Expr) (ρ ρ' : Cl) (b : Bool) : Prop := ∀ (E : Ent) (T : Cl) (t σ : L2.St) (H : Hp), T.length = t.length → ST E (T ++ ρ) (t ++ σ) H →
  ∀ Q : Bool → Hp → Prop, (∀ H', ST E (T ++ ρ') (t ++ σ) H' → Q b H') → wT X e σ H Q
def XW (X : Cx) (e : Expr) (ρ ρ' : Cl) (b : Bool) : Prop := ∀ (E : Ent) (T : Cl) (t σ : L2.St) (H : Hp), T.length = t.length → ST E (T ++ ρ) (t ++ σ) H →
  ∀ Q : Bool → Hp → Prop, (∀ H', ST E (T ++ ρ') (t ++ σ) H' → Q b H') → wW X e σ H Q
def XA (X : Cx) (es : List Expr) (ρ ρ' : Cl) (As : List OA) : Prop := ∀ (E : Ent) (T : Cl) (t σ : L2.St) (H : Hp), T.length = t.length → ST E (T ++ ρ) (t ++ σ) H →
  ∀ Q : List V → Hp → Prop, (∀ vs H', vs.length = As.length → ST E (As.map some ++ (T ++ ρ')) (vs.map some ++ (t ++ σ)) H' → Q vs H') → wA X es σ H Q
def XG (X : Cx) {ω : Type} (sts : List Stmt) (ρ : Cl) (m : Option ω) (Φ : ω → Ent → Ends → Prop) : Prop := ∀ o, m = some o → ∀ (E : Ent) (σ : L2.St) (H : Hp) (D : Ends), ST E ρ σ H → Φ o E D → wS X sts D σ H
/-- it returns | it goes on | one of both -/
def oR {γ : Type} (R : γ → Cl) : γ → Ent → Ends → Prop := fun r E D => ∀ v σ' H', ST E (R r) (some v :: σ') H' → D.rt v H'
def oS {β : Type} (N : β → Cl) : β → Ent → Ends → Prop := fun b E D => ∀ σ' H', ST E (N b) σ' H' → D.nx σ' H'
def oB {γ β : Type} (R : γ → Cl) (N : β → Cl) : γ ⊕ β → Ent → Ends → Prop
  | .inl r => oR R r
  | .inr b => oS N b

/-! ### the state's moves -/
theorem append_set_right {α : Type} (T ρ : List α) (i : Nat) (x : α) : (T ++ ρ).set (T.length + i) x = T ++ ρ.set i x := by
  rw [List.set_append_right _ _ (Nat.le_add_right _ _), Nat.add_sub_cancel_left]
theorem append_get_right {α : Type} (T ρ : List α) (i : Nat) : (T ++ ρ)[T.length + i]? = ρ[i]? := by
  rw [List.getElem?_append_right (Nat.le_add_right _ _), Nat.add_sub_cancel_left]
theorem Cs.slot {G H : Hp} {T ρ : Cl} {t σ : L2.St} {F : List Addr} {i : Nat} {A : OA} (l : T.length = t.length) (c : Cs G H (T ++ ρ) (t ++ σ) F) (h : ρ[i]? = some (some A)) :
    ∃ v F1 F2, σ[i]? = some (some v) ∧ F.Perm (F1 ++ F2) ∧ A.P G H v F1 ∧ Cs G H (T ++ ρ.set i none) (t ++ σ) F2 := by
  obtain ⟨v, F1, F2, a, b, p, q⟩ := c.split (i := T.length + i) (by rw [append_get_right]; exact h)
  rw [l, append_get_right] at a
  rw [append_set_right] at q
  exact ⟨v, F1, F2, a, b, p, q⟩
theorem Cs.back {G H : Hp} {T ρ : Cl} {t σ : L2.St} {F2 : List Addr} {i : Nat} {A : OA} {v : V} {F1 : List Addr} (l : T.length = t.length) (c : Cs G H (T ++ ρ.set i none) (t ++ σ) F2) (hi : i < ρ.length) (hv : σ[i]? = some (some v)) (p : A.P G H v F1) :
    ∃ F, F.Perm (F1 ++ F2) ∧ Cs G H (T ++ ρ.set i (some A)) (t ++ σ) F := by
  rw [← append_set_right] at c
  obtain ⟨F, a, b⟩ := c.join (by rw [List.length_append]; omega) p
  refine ⟨F, a, ?_⟩
  rw [append_set_right, l, append_set_right] at b
  have e : σ.set i (some v) = σ := by
    refine List.ext_getElem? fun j => ?_
    by_cases z : i = j
    · subst z
      have hl : i < σ.length := by
        by_cases q : i < σ.length
        · exact q
        · rw [List.getElem?_eq_none (by omega)] at hv; cases hv
      rw [List.getElem?_set_self hl, hv]
    · rw [List.getElem?_set_ne z]
  rwa [e] at b
theorem lt_of_get {α : Type} {l : List α} {i : Nat} {x : α} (h : l[i]? = some x) : i < l.length := by
  by_cases q : i < l.length
  · exact q
  · rw [List.getElem?_eq_none (by omega)] at h; cases h
theorem set_get {α : Type} {l : List α} {i : Nat} {x : α} (h : l[i]? = some x) : l.set i x = l := by
  refine List.ext_getElem? fun j => ?_
  by_cases z : i = j
  · subst z
    rw [List.getElem?_set_self (lt_of_get h), h]
  · rw [List.getElem?_set_ne z]
theorem set_set {α : Type} (l : List α) (i : Nat) (x y : α) : (l.set i x).set i y = l.set i y := by
  refine List.ext_getElem? fun j => ?_
  by_cases z : i = j
  · subst z
    by_cases q : i < l.length
    · rw [List.getElem?_set_self (by rw [List.length_set]; exact q), List.getElem?_set_self q]
    · rw [List.getElem?_eq_none (by simp; omega), List.getElem?_eq_none (by simp; omega)]
  · rw [List.getElem?_set_ne z, List.getElem?_set_ne z, List.getElem?_set_ne z]
/-- weaker knowledge -/
def Wk : Cl → Cl → Prop
  | [], [] => True
  | _ :: l, none :: l' => Wk l l'
  | a :: l, some b :: l' => a = some b ∧ Wk l l'
  | _, _ => False
theorem Cs.wk {G H : Hp} : ∀ {ρ ρ' : Cl} {σ : L2.St} {F : List Addr}, Cs G H ρ σ F → Wk ρ ρ' → ∃ F', F'.Sublist F ∧ Cs G H ρ' σ F'
  | [], [], [], F, c, _ => ⟨F, .refl _, c⟩
  | [], [], _ :: _, F, c, _ => c.elim
  | [], _ :: _, _, _, _, w => w.elim
  | _ :: _, [], _, _, _, w => w.elim
  | none :: _, _ :: _, [], _, c, _ => c.elim
  | some _ :: _, _ :: _, [], _, c, _ => c.elim
  | none :: ρ, none :: ρ', x :: σ, F, c, w => by
    obtain ⟨F', a, b⟩ := Cs.wk (ρ := ρ) (ρ' := ρ') (σ := σ) c w
    exact ⟨F', a, b⟩
  | none :: ρ, some B :: ρ', x :: σ, F, c, w => nomatch w.1
  | some A :: ρ, none :: ρ', x :: σ, F, c, w => by
    obtain ⟨v, F1, F2, e1, e2, a, c⟩ := c
    obtain ⟨F', p, q⟩ := Cs.wk (ρ' := ρ') c w
    subst e2
    exact ⟨F', p.trans (List.sublist_append_right _ _), q⟩
  | some A :: ρ, some B :: ρ', x :: σ, F, c, w => by
    obtain ⟨v, F1, F2, e1, e2, a, c⟩ := c
    obtain ⟨w1, w2⟩ := w
    cases w1
    obtain ⟨F', p, q⟩ := Cs.wk (ρ' := ρ') c w2
    subst e2
    exact ⟨F1 ++ F', List.Sublist.append_left p F1, v, F1, F', e1, rfl, a, q⟩
theorem ST.wk {E : Ent} {ρ ρ' : Cl} {σ : L2.St} {H : Hp} (h : ST E ρ σ H) (w : Wk ρ ρ') : ST E ρ' σ H := by
  obtain ⟨G, F, f, c⟩ := h
  obtain ⟨F', s, c'⟩ := c.wk w
  exact ⟨G, F', f.less s, c'⟩
theorem ST.pop {E : Ent} {ρ : Cl} {σ : L2.St} {H : Hp} {A : OA} {x : Option V} (h : ST E (some A :: ρ) (x :: σ) H) : ST E ρ σ H := by
  obtain ⟨G, F, f, v, F1, F2, e1, e2, a, c⟩ := h
  subst e2
  exact ⟨G, F2, f.less (List.sublist_append_right _ _), c⟩
/-- the top goes into the cell i -/
theorem ST.assign {E : Ent} {ρ : Cl} {σ : L2.St} {H : Hp} {A : OA} {v : V} {i : Nat} (h : ST E (some A :: ρ) (some v :: σ) H) (hi : i < ρ.length) : ST E (ρ.set i (some A)) (σ.set i (some v)) H := by
  obtain ⟨G, F, f, v', F1, F2, e1, e2, a, c⟩ := h
  cases e1
  subst e2
  obtain ⟨F3, s, c1⟩ := c.forget (i := i) (x := none)
  have f1 : Frm E G H (F1 ++ F3) := f.less (List.Sublist.append_left s F1)
  obtain ⟨F4, p, c2⟩ := c1.join hi a
  rw [set_set] at c2
  exact ⟨G, F4, f1.perm p.symm, c2⟩

/-! ### one value, two values on the top -/
theorem ST.top {E : Ent} {K : PySem.W.Frag} {ρ : Cl} {σ : L2.St} {H : Hp} {d : PyData} {v : V} (h : ST E (some (aD K d) :: ρ) (some v :: σ) H) : ∃ G F, Frm E G H F ∧ Cs G H ρ σ F ∧ Dq K G v d := by
  obtain ⟨G, F, f, v', F1, F2, e1, e2, a, c⟩ := h
  cases e1
  obtain ⟨a1, a2⟩ := a
  subst e2 a2
  exact ⟨G, F2, f, c, a1⟩
theorem ST.top2 {E : Ent} {K : PySem.W.Frag} {ρ : Cl} {σ : L2.St} {H : Hp} {d e : PyData} {v w : V} (h : ST E (some (aD K e) :: some (aD K d) :: ρ) (some w :: some v :: σ) H) : ∃ G F, Frm E G H F ∧ Cs G H ρ σ F ∧ Dq K G v d ∧ Dq K G w e := by
  obtain ⟨G, F, f, c, q⟩ := h.top
  obtain ⟨v', F1, F2, e1, e2, a, c⟩ := c
  cases e1
  obtain ⟨a1, a2⟩ := a
  subst e2 a2
  exact ⟨G, F2, f, c, a1, q⟩
theorem ST.put {E : Ent} {K : PySem.W.Frag} {ρ : Cl} {σ : L2.St} {G H : Hp} {F : List Addr} {d : PyData} {v : V} (f : Frm E G H F) (c : Cs G H ρ σ F) (q : Dq K G v d) : ST E (some (aD K d) :: ρ) (some v :: σ) H := ⟨G, F, f, v, [], F, rfl, rfl, ⟨q, rfl⟩, c⟩

/-! ### expressions: names and constants -/
section
variable {X : Cx} {ρ ρ1 ρ2 ρ3 : Cl} {a b c : Expr} {pos : Pos}
theorem xe_c {v : V} {d : PyData} (h : PE X a (tC v)) (q : ∀ G, Dq X.K G v d) : XE X a ρ ρ (aD X.K d) := fun E T t σ H l st Q k => by
  obtain ⟨G, F, f, cs⟩ := st
  exact wE.of h (k v H (ST.put f cs (q G)))
theorem xe_int {i : Int} {j : Nat} : XE X (.Constant (.int i) j pos) ρ ρ (aD X.K (.int i)) := xe_c pe_int fun _ => .int _
theorem xe_bl {i : Bool} {j : Nat} : XE X (.Constant (.bool i) j pos) ρ ρ (aD X.K (.bool i)) := xe_c pe_bl fun _ => .bl _
theorem xe_str {i : Str} {j : Nat} : XE X (.Constant (.str i) j pos) ρ ρ (aD X.K (.str i)) := xe_c pe_str fun _ => .str _
theorem xe_non {j : Nat} : XE X (.Constant .none j pos) ρ ρ (aD X.K .none) := xe_c pe_non fun _ => .non
theorem xe_gInt {x : Str} {i : Int} {u : Value} (hg : Gl X x) (hm : X.mg x = some u) (r : RelV (.int i) u) (hd : (x == ("__debug__" : Str)) = false := by decide) : XE X (.Name x pos) ρ ρ (aD X.K (.int i)) := xe_c (pe_glob hg hm r hd) fun _ => .int _
/-- a name of the def that holds data -/
theorem xe_nm (i : Nat) {x : Str} {d : PyData} (h : ρ[i]? = some (some (aD X.K d))) (hN : X.N[i]? = some x := by rfl) (hv : Vis X.env.scope x := by first | exact Or.inl rfl | exact Or.inr (Or.inl rfl) | exact Or.inr (Or.inr rfl)) (hd : (x == ("__debug__" : Str)) = false := by decide)
    (hcd : (x == ("__classdict__" : Str)) = false := by decide) : XE X (.Name x pos) ρ ρ (aD X.K d) := fun E T t σ H l st Q k => by
  obtain ⟨G, F, f, cs⟩ := st
  obtain ⟨v, F1, F2, e1, e2, ⟨q, e3⟩, c2⟩ := cs.slot l h
  exact wE.of (pe_var hN hv hd hcd) ⟨v, e1, k v H (ST.put f cs q)⟩
theorem xe_nmA (i : Nat) {x : Str} {A : OA} (h : ρ[i]? = some (some A)) (hA : ∀ G H v F, A.P G H v F → F = []) (hN : X.N[i]? = some x := by rfl) (hv : Vis X.env.scope x := by first | exact Or.inl rfl | exact Or.inr (Or.inl rfl) | exact Or.inr (Or.inr rfl)) (hd : (x == ("__debug__" : Str)) = false := by decide)
    (hcd : (x == ("__classdict__" : Str)) = false := by decide) : XE X (.Name x pos) ρ ρ A := fun E T t σ H l st Q k => by
  obtain ⟨G, F, f, cs⟩ := st
  obtain ⟨v, F1, F2, e1, e2, q, c2⟩ := cs.slot l h
  have e3 := hA _ _ _ _ q
  subst e3
  exact wE.of (pe_var hN hv hd hcd) ⟨v, e1, k v H ⟨G, F, f, v, [], F, rfl, rfl, q, cs⟩⟩
theorem xe_nmR (i : Nat) {x : Str} {ds : List PyData} (h : ρ[i]? = some (some (aR X.K ds))) (hN : X.N[i]? = some x := by rfl) (hv : Vis X.env.scope x := by first | exact Or.inl rfl | exact Or.inr (Or.inl rfl) | exact Or.inr (Or.inr rfl)) (hd : (x == ("__debug__" : Str)) = false := by decide)
    (hcd : (x == ("__classdict__" : Str)) = false := by decide) : XE X (.Name x pos) ρ ρ (aR X.K ds) := xe_nmA i h (fun _ _ _ _ q => q.2) hN hv hd hcd
/-- a name of the def that holds an owned thing: its value -/
theorem xe_nmV (i : Nat) {x : Str} {v0 : V} {A : OA} (h : ρ[i]? = some (some (pin v0 A))) (hN : X.N[i]? = some x := by rfl) (hv : Vis X.env.scope x := by first | exact Or.inl rfl | exact Or.inr (Or.inl rfl) | exact Or.inr (Or.inr rfl)) (hd : (x == ("__debug__" : Str)) = false := by decide)
    (hcd : (x == ("__classdict__" : Str)) = false := by decide) : XE X (.Name x pos) ρ ρ (aV v0) := fun E T t σ H l st Q k => by
  obtain ⟨G, F, f, cs⟩ := st
  obtain ⟨v, F1, F2, e1, e2, ⟨e0, q⟩, c2⟩ := cs.slot l h
  subst e0
  exact wE.of (pe_var hN hv hd hcd) ⟨v, e1, k v H ⟨G, F, f, v, [], F, rfl, rfl, ⟨rfl, rfl⟩, cs⟩⟩

/-! ### operators -/
theorem xe_op {op : Operator} {r : R2} {d1 d2 d : PyData} (ho : OpR X (binaryOp op) r) (ha : XE X a ρ ρ1 (aD X.K d1)) (hb : XE X b ρ1 ρ2 (aD X.K d2))
    (hr : ∀ G H x y Q, Ex G H → Dq X.K G x d1 → Dq X.K G y d2 → (∀ z, Dq X.K G z d → Q z H) → r x y H Q) : XE X (.BinOp a op b pos) ρ ρ2 (aD X.K d) := fun E T t σ H l st Q k =>
  wE.of (pe_op ho peS peS) (ha E T t σ H l st _ fun x H1 st1 => hb E (_ :: T) (_ :: t) σ H1 (by simp [l]) st1 _ fun y H2 st2 => by
    obtain ⟨G, F, f, cs, q1, q2⟩ := ST.top2 st2
    exact hr G H2 x y Q f.gh q1 q2 fun z q => k z H2 (ST.put f cs q))
theorem xe_opI {op : Operator} {C : Int → Int → Prop} {g : Int → Int → Int} {i j : Int} (ho : OpR X (binaryOp op) (rI C fun i j => .int (g i j))) (ha : XE X a ρ ρ1 (aD X.K (.int i))) (hb : XE X b ρ1 ρ2 (aD X.K (.int j))) (hc : C i j) : XE X (.BinOp a op b pos) ρ ρ2 (aD X.K (.int (g i j))) :=
  xe_op ho ha hb fun G H x y Q _ q1 q2 k => by
    cases q1
    cases q2
    exact ⟨i, j, rfl, rfl, hc, k _ (.int _)⟩
theorem xe_opI0 {op : Operator} {g : Int → Int → Int} {i j : Int} (ho : OpR X (binaryOp op) (rI0 fun i j => .int (g i j))) (ha : XE X a ρ ρ1 (aD X.K (.int i))) (hb : XE X b ρ1 ρ2 (aD X.K (.int j))) : XE X (.BinOp a op b pos) ρ ρ2 (aD X.K (.int (g i j))) :=
  xe_op ho ha hb fun G H x y Q _ q1 q2 k => by
    cases q1
    cases q2
    exact ⟨i, j, rfl, rfl, k _ (.int _)⟩
variable {i j : Int}
theorem xe_add (ha : XE X a ρ ρ1 (aD X.K (.int i))) (hb : XE X b ρ1 ρ2 (aD X.K (.int j))) : XE X (.BinOp a .Add b pos) ρ ρ2 (aD X.K (.int (i + j))) := xe_opI0 op_add ha hb
theorem xe_sub (ha : XE X a ρ ρ1 (aD X.K (.int i))) (hb : XE X b ρ1 ρ2 (aD X.K (.int j))) : XE X (.BinOp a .Sub b pos) ρ ρ2 (aD X.K (.int (i - j))) := xe_opI0 op_sub ha hb
def MulOk (i j : Int) : Prop := (-(2 ^ 64) < i ∧ i < 2 ^ 64) ∨ (-(2 ^ 64) < j ∧ j < 2 ^ 64)
instance (i j : Int) : Decidable (MulOk i j) := by unfold MulOk; exact inferInstance
theorem mulL (i : Int) (h : -(2 ^ 64) < i ∧ i < 2 ^ 64 := by decide) {j : Int} : MulOk i j := .inl h
theorem mulR (j : Int) (h : -(2 ^ 64) < j ∧ j < 2 ^ 64 := by decide) {i : Int} : MulOk i j := .inr h
theorem xe_mul (hc : MulOk i j) (ha : XE X a ρ ρ1 (aD X.K (.int i))) (hb : XE X b ρ1 ρ2 (aD X.K (.int j))) : XE X (.BinOp a .Mult b pos) ρ ρ2 (aD X.K (.int (i * j))) := xe_opI op_mul ha hb hc
/-- //, % by a positive number below 2 ^ 64 -/
def DivOk (j : Int) : Prop := 0 < j ∧ j < 2 ^ 64
instance (j : Int) : Decidable (DivOk j) := by unfold DivOk; exact inferInstance
theorem DivOk.w {i j : Int} (h : DivOk j) : CDivW i j := wide_div (b := 64) h.1 (by have := h.2; have := h.1; omega) (by decide) (by decide)
theorem xe_div (hc : DivOk j) (ha : XE X a ρ ρ1 (aD X.K (.int i))) (hb : XE X b ρ1 ρ2 (aD X.K (.int j))) : XE X (.BinOp a .FloorDiv b pos) ρ ρ2 (aD X.K (.int (i / j))) := xe_opI op_fdivW ha hb hc.w
theorem xe_mod (hc : 0 < j) (ha : XE X a ρ ρ1 (aD X.K (.int i))) (hb : XE X b ρ1 ρ2 (aD X.K (.int j))) : XE X (.BinOp a .Mod b pos) ρ ρ2 (aD X.K (.int (i % j))) := xe_opI op_mod ha hb hc
def PowOk (i j : Int) : Prop := 0 ≤ j ∧ j ≤ 1000000 ∧ i.natAbs < 2 ^ 64
instance (i j : Int) : Decidable (PowOk i j) := by unfold PowOk; exact inferInstance
theorem xe_pow (hc : PowOk i j) (ha : XE X a ρ ρ1 (aD X.K (.int i))) (hb : XE X b ρ1 ρ2 (aD X.K (.int j))) : XE X (.BinOp a .Pow b pos) ρ ρ2 (aD X.K (.int (i ^ j.toNat))) := xe_opI op_pow ha hb hc
theorem xe_shl (hc : PowOk i j) (ha : XE X a ρ ρ1 (aD X.K (.int i))) (hb : XE X b ρ1 ρ2 (aD X.K (.int j))) : XE X (.BinOp a .LShift b pos) ρ ρ2 (aD X.K (.int (i * 2 ^ j.toNat))) := xe_opI (g := fun i j => i * 2 ^ j.toNat) op_shl ha hb hc
theorem xe_shr (hc : 0 ≤ j) (ha : XE X a ρ ρ1 (aD X.K (.int i))) (hb : XE X b ρ1 ρ2 (aD X.K (.int j))) : XE X (.BinOp a .RShift b pos) ρ ρ2 (aD X.K (.int (i / 2 ^ j.toNat))) := xe_opI (C := fun _ j => 0 ≤ j) (g := fun i j => i / 2 ^ j.toNat) op_shr ha hb hc
theorem xe_xor (ha : XE X a ρ ρ1 (aD X.K (.int i))) (hb : XE X b ρ1 ρ2 (aD X.K (.int j))) : XE X (.BinOp a .BitXor b pos) ρ ρ2 (aD X.K (.int (Builtin.bitXor i j))) := xe_opI0 op_xor ha hb
theorem xe_neg (ha : XE X a ρ ρ1 (aD X.K (.int i))) : XE X (.UnaryOp .USub a pos) ρ ρ1 (aD X.K (.int (-i))) := fun E T t σ H l st Q k =>
  wE.of (pe_un un_neg peS) (ha E T t σ H l st _ fun x H1 st1 => by
    obtain ⟨G, F, f, cs, q⟩ := ST.top st1
    cases q
    exact ⟨i, rfl, k _ H1 (ST.put f cs (.int _))⟩)

/-! ### comparisons -/
/-- a comparison, as a value and as a test -/
def XKm (X : Cx) (e : Expr) (ρ ρ' : Cl) (k : Bool) : Prop := ∃ t : TE, PE X e t ∧ PT X e (tTest t) ∧ ∀ (E : Ent) (T : Cl) (t' σ : L2.St) (H : Hp), T.length = t'.length → ST E (T ++ ρ) (t' ++ σ) H →
  ∀ Q : VK, (∀ v H', ST E (some (aD X.K (.bool k)) :: (T ++ ρ')) (some v :: (t' ++ σ)) H' → Q v H') → t σ H Q
theorem xe_k {k : Bool} (h : XKm X a ρ ρ1 k) : XE X a ρ ρ1 (aD X.K (.bool k)) := fun E T t σ H l st Q kk => by
  obtain ⟨t0, h1, h2, h3⟩ := h
  exact wE.of h1 (h3 E T t σ H l st Q kk)
theorem xt_k {k : Bool} (h : XKm X a ρ ρ1 k) : XT X a ρ ρ1 k := fun E T t σ H l st Q kk => by
  obtain ⟨t0, h1, h2, h3⟩ := h
  exact wT.of h2 (h3 E T t σ H l st _ fun v H1 st1 => by
    obtain ⟨G, F, f, cs, q⟩ := ST.top st1
    cases q
    exact ⟨k, rfl, kk H1 ⟨G, F, f, cs⟩⟩)
theorem xk_cmp {op : CmpOp} {r : R2} {d1 d2 : PyData} {k : Bool} (ho : OpR X (compareOp op) r) (hm : behindInMarks op b = false) (ha : XE X a ρ ρ1 (aD X.K d1)) (hb : XE X b ρ1 ρ2 (aD X.K d2))
    (hr : ∀ G H x y Q, Ex G H → Dq X.K G x d1 → Dq X.K G y d2 → (∀ z, Dq X.K G z (.bool k) → Q z H) → r x y H Q) : XKm X (.Compare a [op] [b] pos) ρ ρ2 k :=
  ⟨_, pe_cmpR ho peS peS hm, pt_cmpR ho peS peS hm, fun E T t σ H l st Q kk => ha E T t σ H l st _ fun x H1 st1 => hb E (_ :: T) (_ :: t) σ H1 (by simp [l]) st1 _ fun y H2 st2 => by
    obtain ⟨G, F, f, cs, q1, q2⟩ := ST.top2 st2
    exact hr G H2 x y Q f.gh q1 q2 fun z q => kk z H2 (ST.put f cs q)⟩
theorem xk_cmpI {op : CmpOp} {g : Int → Int → Bool} {i j : Int} (ho : OpR X (compareOp op) (rI0 fun i j => .bl (g i j))) (ha : XE X a ρ ρ1 (aD X.K (.int i))) (hb : XE X b ρ1 ρ2 (aD X.K (.int j))) (hm : behindInMarks op b = false) : XKm X (.Compare a [op] [b] pos) ρ ρ2 (g i j) :=
  xk_cmp ho hm ha hb fun G H x y Q _ q1 q2 k => by
    cases q1
    cases q2
    exact ⟨i, j, rfl, rfl, k _ (.bl _)⟩
theorem xk_lt (ha : XE X a ρ ρ1 (aD X.K (.int i))) (hb : XE X b ρ1 ρ2 (aD X.K (.int j))) : XKm X (.Compare a [.Lt] [b] pos) ρ ρ2 (decide (i < j)) := xk_cmpI (g := fun i j => decide (i < j)) op_lt ha hb (nomark _)
theorem xk_le (ha : XE X a ρ ρ1 (aD X.K (.int i))) (hb : XE X b ρ1 ρ2 (aD X.K (.int j))) : XKm X (.Compare a [.LtE] [b] pos) ρ ρ2 (decide (i ≤ j)) := xk_cmpI (g := fun i j => decide (i ≤ j)) op_le ha hb (nomark _)
theorem xk_gt (ha : XE X a ρ ρ1 (aD X.K (.int i))) (hb : XE X b ρ1 ρ2 (aD X.K (.int j))) : XKm X (.Compare a [.Gt] [b] pos) ρ ρ2 (decide (j < i)) := xk_cmpI (g := fun i j => decide (j < i)) op_gt ha hb (nomark _)
theorem xk_ge (ha : XE X a ρ ρ1 (aD X.K (.int i))) (hb : XE X b ρ1 ρ2 (aD X.K (.int j))) : XKm X (.Compare a [.GtE] [b] pos) ρ ρ2 (decide (j ≤ i)) := xk_cmpI (g := fun i j => decide (j ≤ i)) op_ge ha hb (nomark _)
end
end Mr

set_option Elab.async false
set_option linter.all false
set_option maxRecDepth 100000
namespace Mr
open PySem PySem.Spec PyProof.Rows L2

/-! ### how a thing is read -/
/-- A, where ρ is known, reads as data | as a list whose items stay | a list that is tracked | a tuple | a thing with a length -/
def Rda (K : PySem.W.Frag) (ρ : Cl) (A : OA) (d : PyData) : Prop := ∀ {G H : Hp} {T : Cl} {t σ : L2.St} {F Fv : List Addr} {v : V}, T.length = t.length → Cs G H (T ++ ρ) (t ++ σ) F → Ex G H → A.P G H v Fv → Dp K H v d
def Rls (K : PySem.W.Frag) (ρ : Cl) (A : OA) (ds : List PyData) : Prop := ∀ {G H : Hp} {T : Cl} {t σ : L2.St} {F Fv : List Addr} {v : V}, T.length = t.length → Cs G H (T ++ ρ) (t ++ σ) F → Ex G H → A.P G H v Fv → ∃ a xs, v = .ref a ∧ SqL K H a xs ∧ DqAll K G xs ds
def Rlm (K : PySem.W.Frag) (ρ : Cl) (A : OA) (ds : List PyData) : Prop := ∀ {G H : Hp} {T : Cl} {t σ : L2.St} {F Fv : List Addr} {v : V}, T.length = t.length → Cs G H (T ++ ρ) (t ++ σ) F → Ex G H → A.P G H v Fv → ∃ a xs, v = .ref a ∧ H a = some (.lst xs) ∧ DqAll K G xs ds
def Rtu (K : PySem.W.Frag) (ρ : Cl) (A : OA) (ds : List PyData) : Prop := ∀ {G H : Hp} {T : Cl} {t σ : L2.St} {F Fv : List Addr} {v : V}, T.length = t.length → Cs G H (T ++ ρ) (t ++ σ) F → Ex G H → A.P G H v Fv → ∃ a xs, v = .ref a ∧ SqT K H a xs ∧ DqAll K G xs ds
def Rsq (K : PySem.W.Frag) (ρ : Cl) (A : OA) (n : Nat) : Prop := ∀ {G H : Hp} {T : Cl} {t σ : L2.St} {F Fv : List Addr} {v : V}, T.length = t.length → Cs G H (T ++ ρ) (t ++ σ) F → Ex G H → A.P G H v Fv → ∃ a xs, v = .ref a ∧ (SqL K H a xs ∨ SqT K H a xs) ∧ xs.length = n
section
variable {K : PySem.W.Frag} {ρ : Cl} {A : OA} {ds : List PyData} {d : PyData}
theorem Rlm.ls (h : Rlm K ρ A ds) : Rls K ρ A ds := fun l c e p => by
  obtain ⟨a, xs, e1, e2, e3⟩ := h l c e p
  exact ⟨a, xs, e1, .inl (.inl e2), e3⟩
theorem Rls.da (h : Rls K ρ A ds) : Rda K ρ A (.list ds) := fun l c e p => by
  obtain ⟨a, xs, e1, e2, e3⟩ := h l c e p
  subst e1
  exact .lst e2 (DqAll.dp _ _ (DqAll.mono e _ _ e3))
theorem Rls.sq (h : Rls K ρ A ds) : Rsq K ρ A ds.length := fun l c e p => by
  obtain ⟨a, xs, e1, e2, e3⟩ := h l c e p
  exact ⟨a, xs, e1, .inl e2, e3.len⟩
theorem Rtu.da (h : Rtu K ρ A ds) : Rda K ρ A (.tuple ds) := fun l c e p => by
  obtain ⟨a, xs, e1, e2, e3⟩ := h l c e p
  subst e1
  exact .tup e2 (DqAll.dp _ _ (DqAll.mono e _ _ e3))
theorem Rtu.sq (h : Rtu K ρ A ds) : Rsq K ρ A ds.length := fun l c e p => by
  obtain ⟨a, xs, e1, e2, e3⟩ := h l c e p
  exact ⟨a, xs, e1, .inr e2, e3.len⟩
theorem Rlm.da (h : Rlm K ρ A ds) : Rda K ρ A (.list ds) := Rls.da (Rlm.ls h)
theorem Rlm.sq (h : Rlm K ρ A ds) : Rsq K ρ A ds.length := Rls.sq (Rlm.ls h)
theorem rdD : Rda K ρ (aD K d) d := fun l c e p => Dq.dp _ _ (Dq.mono e _ _ p.1)
theorem rmD : Rlm K ρ (aD K (.list ds)) ds := fun l c e p => by
  obtain ⟨q, _⟩ := p
  cases q with
  | lst h1 h2 => exact ⟨_, _, rfl, e _ _ h1, h2⟩
theorem rlD : Rls K ρ (aD K (.list ds)) ds := rmD.ls
theorem rtD : Rtu K ρ (aD K (.tuple ds)) ds := fun l c e p => by
  obtain ⟨q, _⟩ := p
  cases q with
  | tup h1 h2 => exact ⟨_, _, rfl, e.st h1, h2⟩
theorem rlR : Rls K ρ (aR K ds) ds := fun l c e p => by
  obtain ⟨⟨a, xs, e1, e2, e3⟩, _⟩ := p
  exact ⟨a, xs, e1, e.sl e2, e3⟩
theorem rmL : Rlm K ρ (aLD K ds) ds := fun l c e p => by
  obtain ⟨p, vs, F', e1, e2, h1, c1⟩ := p
  obtain ⟨q1, q2⟩ := csD c1
  exact ⟨p, vs, e1, h1, q1⟩
theorem rmO (i : Nat) {v0 : V} (h : ρ[i]? = some (some (pin v0 (aLD K ds)))) : Rlm K ρ (aV v0) ds := fun l c e p => by
  obtain ⟨e0, _⟩ := p
  obtain ⟨v, F1, F2, e1, e2, ⟨e3, q⟩, c2⟩ := c.slot l h
  subst e0 e3
  exact rmL l c e q
/-- an owned list of whatever: its length -/
theorem rsL {As : List OA} : Rsq K ρ (aL As) As.length := fun l c e p => by
  obtain ⟨p, vs, F', e1, e2, h1, c1⟩ := p
  have := c1.len
  exact ⟨p, vs, e1, .inl (.inl (.inl h1)), by simpa using this.symm⟩
theorem rsO (i : Nat) {v0 : V} {As : List OA} (h : ρ[i]? = some (some (pin v0 (aL As)))) : Rsq K ρ (aV v0) As.length := fun l c e p => by
  obtain ⟨e0, _⟩ := p
  obtain ⟨v, F1, F2, e1, e2, ⟨e3, q⟩, c2⟩ := c.slot l h
  subst e0 e3
  exact rsL l c e q
end

/-! ### two things, one thing on the top -/
theorem ST.two {E : Ent} {A B : OA} {L : Cl} {C : L2.St} {H : Hp} {v w : V} (h : ST E (some B :: some A :: L) (some w :: some v :: C) H) : ∃ G F Fv Fw, Frm E G H F ∧ Cs G H L C F ∧ A.P G H v Fv ∧ B.P G H w Fw := by
  obtain ⟨G, F, f, w', F1, F2, e1, e2, b, v', F3, F4, e3, e4, a, c⟩ := h
  cases e1
  cases e3
  subst e2 e4
  exact ⟨G, F4, F3, F1, f.less ((List.sublist_append_right _ _).trans (List.sublist_append_right _ _)), c, a, b⟩
theorem ST.one {E : Ent} {A : OA} {L : Cl} {C : L2.St} {H : Hp} {v : V} (h : ST E (some A :: L) (some v :: C) H) : ∃ G F Fv, Frm E G H F ∧ Cs G H L C F ∧ A.P G H v Fv := by
  obtain ⟨G, F, f, w', F1, F2, e1, e2, b, c⟩ := h
  cases e1
  subst e2
  exact ⟨G, F2, F1, f.less (List.sublist_append_right _ _), c, b⟩
/-- a new owned list of data on the top -/
theorem ST.newL {E : Ent} {K : PySem.W.Frag} {L : Cl} {C : L2.St} {G H : Hp} {F : List Addr} {p : Addr} {vs : List V} {ds : List PyData} (f : Frm E G H F) (c : Cs G H L C F) (n : H p = none) (q : DqAll K G vs ds) : ST E (some (aLD K ds) :: L) (some (.ref p) :: C) (upd H p (.lst vs)) := by
  obtain ⟨f1, st⟩ := f.step (Fa := []) (Fr := F) (by simp) (Frm.alloc (o := .lst vs) f.gh n)
  have c1 : Cs G (upd H p (.lst vs)) L C F := c.mono (.refl _) f1.gh st
  exact ⟨G, _, f1, .ref p, [p], F, rfl, rfl, ⟨p, vs, [], rfl, rfl, upd_same, csD' q⟩, c1⟩
/-- a new tuple of data -/
theorem ST.newT {E : Ent} {K : PySem.W.Frag} {L : Cl} {C : L2.St} {G H : Hp} {F : List Addr} {p : Addr} {vs : List V} {ds : List PyData} (f : Frm E G H F) (c : Cs G H L C F) (n : H p = none) (q : DqAll K G vs ds) : ST E (some (aD K (.tuple ds)) :: L) (some (.ref p) :: C) (upd H p (.tup vs)) := by
  obtain ⟨f1, st⟩ := f.step (Fa := []) (Fr := F) (by simp) (Frm.allocG (o := .tup vs) f.gh n)
  have c1 : Cs (upd G p (.tup vs)) (upd H p (.tup vs)) L C F := c.mono (Ex.new (by
    cases q : G p with
    | none => rfl
    | some u => rw [f.gh p u q] at n; cases n)) f1.gh st
  refine ⟨_, _, f1, .ref p, [], F, rfl, rfl, ⟨.tup (.inl (.inl upd_same)) (DqAll.mono (Ex.new ?_) _ _ q), rfl⟩, by simpa using c1⟩
  cases q : G p with
  | none => rfl
  | some u => rw [f.gh p u q] at n; cases n

section
variable {X : Cx} {ρ ρ1 ρ2 ρ3 : Cl} {a b c : Expr} {pos : Pos} {A B : OA} {d d1 d2 : PyData} {ds es : List PyData}
/-- an owned list that is not changed any more -/
theorem xe_frz (h : XE X a ρ ρ1 (aLD X.K ds)) : XE X a ρ ρ1 (aD X.K (.list ds)) := fun E T t σ H l st Q k => h E T t σ H l st Q fun v H' st1 => by
  obtain ⟨G, F, f, w, F1, F2, e1, e2, ⟨p, vs, F', e3, e4, h1, c1⟩, cs⟩ := st1
  obtain ⟨q1, q2⟩ := csD c1
  cases e1
  subst e2 e3 e4 q2
  have g : G p = none := f.dis p (by simp)
  obtain ⟨f1, st⟩ := f.step (Fa := [p]) (Fr := F2) (by simp) (Frm.freeze f.gh g h1)
  exact k _ _ ⟨_, _, f1, .ref p, [], F2, rfl, rfl, ⟨.lst upd_same (DqAll.mono (.new g) _ _ q1), rfl⟩, by simpa using cs.mono (.new g) f1.gh st⟩
/-- the same thing, said otherwise -/
theorem xe_is (h : XE X a ρ ρ1 A) (e : A = B) : XE X a ρ ρ1 B := e ▸ h
theorem xe_isD (h : XE X a ρ ρ1 (aD X.K d)) (e : d = d1) : XE X a ρ ρ1 (aD X.K d1) := e ▸ h

theorem xk_eqD {op : CmpOp} {neg : Bool} {k : Bool} (ho : OpR X (compareOp op) (fun x y H Q => ∃ d e, Dp X.K H x d ∧ Dp X.K H y e ∧ SeqAt.shaped d = true ∧ SeqAt.shaped e = true ∧ Q (.bl (if neg then !PyData.eqv d e else PyData.eqv d e)) H)) (hm : behindInMarks op b = false)
    (ha : XE X a ρ ρ1 A) (hb : XE X b ρ1 ρ2 B) (ra : Rda X.K ρ2 A d1) (rb : Rda X.K ρ2 B d2) (s1 : SeqAt.shaped d1 = true) (s2 : SeqAt.shaped d2 = true) (he : PyData.eqv d1 d2 = k) : XKm X (.Compare a [op] [b] pos) ρ ρ2 (if neg then !k else k) :=
  ⟨_, pe_cmpR ho peS peS hm, pt_cmpR ho peS peS hm, fun E T t σ H l st Q kk => ha E T t σ H l st _ fun x H1 st1 => hb E (_ :: T) (_ :: t) σ H1 (by simp [l]) st1 _ fun y H2 st2 => by
    obtain ⟨G, F, Fv, Fw, f, cs, q1, q2⟩ := ST.two st2
    refine ⟨d1, d2, ra l cs f.gh q1, rb l cs f.gh q2, s1, s2, ?_⟩
    rw [he]
    exact kk _ H2 (ST.put f cs (.bl _))⟩
theorem xk_eq {k : Bool} (hu : X.A.units + 64 < cLine) (ha : XE X a ρ ρ1 A) (hb : XE X b ρ1 ρ2 B) (ra : Rda X.K ρ2 A d1) (rb : Rda X.K ρ2 B d2) (s1 : SeqAt.shaped d1 = true) (s2 : SeqAt.shaped d2 = true) (he : PyData.eqv d1 d2 = k) : XKm X (.Compare a [.Eq] [b] pos) ρ ρ2 k :=
  xk_eqD (neg := false) (op_eqD hu) (nomark _) ha hb ra rb s1 s2 he
theorem xk_ne {k : Bool} (hu : X.A.units + 64 < cLine) (ha : XE X a ρ ρ1 A) (hb : XE X b ρ1 ρ2 B) (ra : Rda X.K ρ2 A d1) (rb : Rda X.K ρ2 B d2) (s1 : SeqAt.shaped d1 = true) (s2 : SeqAt.shaped d2 = true) (he : PyData.eqv d1 d2 = k) : XKm X (.Compare a [.NotEq] [b] pos) ρ ρ2 (!k) :=
  xk_eqD (neg := true) (op_neD hu) (nomark _) ha hb ra rb s1 s2 he
def isN : PyData → Bool
  | .none => true
  | _ => false
theorem Dq.isN {K : PySem.W.Frag} {G : Hp} {v : V} (h : Dq K G v d) : decide (v = V.non) = Mr.isN d := by
  cases h <;> rfl
theorem xk_isNone {k : Bool} {j : Nat} {p' : Pos} (ha : XE X a ρ ρ1 (aD X.K d)) (hk : isN d = k) : XKm X (.Compare a [.Is] [.Constant .none j p'] pos) ρ ρ1 k :=
  ⟨_, pe_cmpR op_isN peS pe_non (nomark _), pt_cmpR op_isN peS pe_non (nomark _), fun E T t σ H l st Q kk => ha E T t σ H l st _ fun x H1 st1 => by
    obtain ⟨G, F, f, cs, q⟩ := ST.top st1
    refine ⟨rfl, ?_⟩
    rw [q.isN, hk]
    exact kk _ H1 (ST.put f cs (.bl _))⟩
theorem xk_notNone {k : Bool} {j : Nat} {p' : Pos} (ha : XE X a ρ ρ1 (aD X.K d)) (hk : isN d = k) : XKm X (.Compare a [.IsNot] [.Constant .none j p'] pos) ρ ρ1 (!k) :=
  ⟨_, pe_cmpR op_notN peS pe_non (nomark _), pt_cmpR op_notN peS pe_non (nomark _), fun E T t σ H l st Q kk => ha E T t σ H l st _ fun x H1 st1 => by
    obtain ⟨G, F, f, cs, q⟩ := ST.top st1
    refine ⟨rfl, ?_⟩
    rw [q.isN, hk]
    exact kk _ H1 (ST.put f cs (.bl _))⟩
/-- a chain of two comparisons of ints -/
theorem xk_chain {op op' : CmpOp} {g g' : Int → Int → Bool} {i j k : Int} (ho : OpR X (compareOp op) (rI0 fun i j => .bl (g i j))) (ho' : OpR X (compareOp op') (rI0 fun i j => .bl (g' i j))) (hm : lastMarks [op, op'] [b, c] = false)
    (ha : XE X a ρ ρ (aD X.K (.int i))) (hb : XE X b ρ ρ (aD X.K (.int j))) (hc : g i j = true → XE X c ρ ρ (aD X.K (.int k))) {r : Bool} (hres : (g i j && g' j k) = r) : XKm X (.Compare a [op, op'] [b, c] pos) ρ ρ r :=
  ⟨_, pe_chain ho ho' peS peS peS hm, pt_chain ho ho' peS peS peS hm, fun E T t σ H l st Q kk => by
   subst hres
   exact ha E T t σ H l st _ fun x H1 st1 => hb E (_ :: T) (_ :: t) σ H1 (by simp [l]) st1 _ fun y H2 st2 => by
    obtain ⟨G, F, f, cs, q1, q2⟩ := ST.top2 st2
    cases q1
    cases q2
    refine ⟨i, j, rfl, rfl, g i j, rfl, ?_⟩
    cases hg : g i j with
    | false =>
      rw [hg] at kk
      exact kk _ H2 (ST.put f cs (show Dq X.K G (.bl false) (.bool false) from .bl _))
    | true =>
      rw [hg] at kk
      refine hc hg E T t σ H2 l ⟨G, F, f, cs⟩ _ fun z H3 st3 => ?_
      obtain ⟨G, F, f, cs, q⟩ := ST.top st3
      cases q
      exact ⟨j, k, rfl, rfl, kk _ H3 (ST.put f cs (show Dq X.K G (.bl (g' j k)) (.bool (g' j k)) from .bl _))⟩⟩

/-! ### tests -/
theorem xt_v {k : Bool} (h : XE X a ρ ρ1 (aD X.K (.bool k))) (he : ∀ whole, isTrue a X.env whole = (do let v ← whole; standAt a.pos; holding [v] (truthy v)) := by intro _; rfl) : XT X a ρ ρ1 k := fun E T t σ H l st Q kk =>
  wT.of (pt_val peS he) (h E T t σ H l st _ fun x H1 st1 => by
    obtain ⟨G, F, f, cs, q⟩ := ST.top st1
    cases q
    exact ⟨k, rfl, kk H1 ⟨G, F, f, cs⟩⟩)
theorem xt_not {k : Bool} (h : XT X a ρ ρ1 k) : XT X (.UnaryOp .Not a pos) ρ ρ1 (!k) := fun E T t σ H l st Q kk => wT.of (pt_not ptS) (h E T t σ H l st _ fun H1 st1 => kk H1 st1)
theorem xt_w {k : Bool} (h : XW X a ρ ρ1 k) : XT X a ρ ρ1 k := fun E T t σ H l st Q kk => wT.of (PW.pt pwS) (h E T t σ H l st Q kk)
theorem xw_and1 {k : Bool} (h : XT X a ρ ρ1 k) : XW X (.BoolOp .And [a] pos) ρ ρ1 k := fun E T t σ H l st Q kk => wW.of (pw_and1 ptS) (h E T t σ H l st Q kk)
theorem xw_or1 {k : Bool} (h : XT X a ρ ρ1 k) : XW X (.BoolOp .Or [a] pos) ρ ρ1 k := fun E T t σ H l st Q kk => wW.of (pw_or1 ptS) (h E T t σ H l st Q kk)
theorem xw_and {k k2 : Bool} {rest : List Expr} (h : XT X a ρ ρ k) (h2 : k = true → XW X (.BoolOp .And (b :: rest) pos) ρ ρ k2) : XW X (.BoolOp .And (a :: b :: rest) pos) ρ ρ (k && k2) := fun E T t σ H l st Q kk => wW.of (pw_and ptS pwS) (h E T t σ H l st _ fun H1 st1 => by
  cases k with
  | true => exact h2 rfl E T t σ H1 l st1 Q kk
  | false => exact kk H1 st1)
theorem xw_or {k k2 : Bool} {rest : List Expr} (h : XT X a ρ ρ k) (h2 : k = false → XW X (.BoolOp .Or (b :: rest) pos) ρ ρ k2) : XW X (.BoolOp .Or (a :: b :: rest) pos) ρ ρ (k || k2) := fun E T t σ H l st Q kk => wW.of (pw_or ptS pwS) (h E T t σ H l st _ fun H1 st1 => by
  cases k with
  | false => exact h2 rfl E T t σ H1 l st1 Q kk
  | true => exact kk H1 st1)
/-- the truth of a list -/
theorem xt_list {n : Nat} (h : XE X a ρ ρ1 A) (r : Rsq X.K ρ1 A n) (hl : Rls X.K ρ1 A ds) (he : ∀ whole, isTrue a X.env whole = (do let v ← whole; standAt a.pos; holding [v] (truthy v)) := by intro _; rfl) : XT X a ρ ρ1 (!ds.isEmpty) := fun E T t σ H l st Q kk =>
  wT.of (pt_truth peS he) (h E T t σ H l st _ fun x H1 st1 => by
    obtain ⟨G, F, Fv, f, cs, q⟩ := ST.one st1
    obtain ⟨p, xs, e1, e2, e3⟩ := hl l cs f.gh q
    subst e1
    refine ⟨!ds.isEmpty, .inl ⟨xs, e2, ?_⟩, kk H1 ⟨G, F, f, cs⟩⟩
    have := e3.len
    cases xs <;> cases ds <;> simp_all)
/-- bools as values -/
theorem xe_not {k : Bool} (h : XE X a ρ ρ1 (aD X.K (.bool k))) : XE X (.UnaryOp .Not a pos) ρ ρ1 (aD X.K (.bool (!k))) := fun E T t σ H l st Q kk => wE.of (pe_not peS) (h E T t σ H l st _ fun x H1 st1 => by
  obtain ⟨G, F, f, cs, q⟩ := ST.top st1
  cases q
  exact ⟨k, rfl, kk _ H1 (ST.put f cs (.bl _))⟩)
theorem xe_one {op : BoolOp} (h : XE X a ρ ρ1 A) : XE X (.BoolOp op [a] pos) ρ ρ1 A := fun E T t σ H l st Q kk => wE.of (pe_one peS) (h E T t σ H l st Q kk)
theorem xe_and {k k2 : Bool} {rest : List Expr} (h : XE X a ρ ρ (aD X.K (.bool k))) (h2 : k = true → XE X (.BoolOp .And (b :: rest) pos) ρ ρ (aD X.K (.bool k2))) : XE X (.BoolOp .And (a :: b :: rest) pos) ρ ρ (aD X.K (.bool (k && k2))) := fun E T t σ H l st Q kk => wE.of (pe_and peS peS) (h E T t σ H l st _ fun x H1 st1 => by
  obtain ⟨G, F, f, cs, q⟩ := ST.top st1
  cases q
  refine ⟨k, rfl, ?_⟩
  cases k with
  | true => exact h2 rfl E T t σ H1 l ⟨G, F, f, cs⟩ Q kk
  | false => exact kk _ H1 (ST.put f cs (.bl _)))
theorem xe_or {k k2 : Bool} {rest : List Expr} (h : XE X a ρ ρ (aD X.K (.bool k))) (h2 : k = false → XE X (.BoolOp .Or (b :: rest) pos) ρ ρ (aD X.K (.bool k2))) : XE X (.BoolOp .Or (a :: b :: rest) pos) ρ ρ (aD X.K (.bool (k || k2))) := fun E T t σ H l st Q kk => wE.of (pe_or peS peS) (h E T t σ H l st _ fun x H1 st1 => by
  obtain ⟨G, F, f, cs, q⟩ := ST.top st1
  cases q
  refine ⟨k, rfl, ?_⟩
  cases k with
  | false => exact h2 rfl E T t σ H1 l ⟨G, F, f, cs⟩ Q kk
  | true => exact kk _ H1 (ST.put f cs (.bl _)))
theorem xe_if {k : Bool} (h : XT X c ρ ρ1 k) (h1 : k = true → XE X a ρ1 ρ2 A) (h2 : k = false → XE X b ρ1 ρ2 A) : XE X (.IfExp c a b pos) ρ ρ2 A := fun E T t σ H l st Q kk => wE.of (pe_ifExp ptS peS peS) (h E T t σ H l st _ fun H1 st1 => by
  cases k with
  | true => exact h1 rfl E T t σ H1 l st1 Q kk
  | false => exact h2 rfl E T t σ H1 l st1 Q kk)

/-! ### subscripts, slices, displays -/
theorem atI_dq {K : PySem.W.Frag} {G : Hp} {xs : List V} {i : Int} (h : DqAll K G xs ds) (ha : atI ds i = some d) : ∃ v, atI xs i = some v ∧ Dq K G v d := by
  unfold atI at ha ⊢
  rw [h.len]
  cases hk : ixN ds.length i with
  | none => rw [hk] at ha; cases ha
  | some j =>
    rw [hk] at ha
    exact h.get ha
theorem xe_ix {i : Int} (ha : XE X a ρ ρ1 A) (hb : XE X b ρ1 ρ2 (aD X.K (.int i))) (r : Rls X.K ρ2 A ds) (h : atI ds i = some d) (hs : PlainIx b := by exact fun _ _ => rfl) : XE X (.Subscript a b pos) ρ ρ2 (aD X.K d) := fun E T t σ H l st Q k =>
  wE.of (pe_ix ix_list peS peS hs) (ha E T t σ H l st _ fun x H1 st1 => hb E (_ :: T) (_ :: t) σ H1 (by simp [l]) st1 _ fun y H2 st2 => by
    obtain ⟨G, F, Fv, Fw, f, cs, q1, q2, _⟩ := ST.two st2
    cases q2
    obtain ⟨p, xs, e1, e2, e3⟩ := r l cs f.gh q1
    obtain ⟨v, e4, e5⟩ := atI_dq e3 h
    exact ⟨p, xs, i, v, e1, rfl, e2, e4, k v H2 (ST.put f cs e5)⟩)
theorem xe_ixT {i : Int} (ha : XE X a ρ ρ1 A) (hb : XE X b ρ1 ρ2 (aD X.K (.int i))) (r : Rtu X.K ρ2 A ds) (h : atI ds i = some d) (hs : PlainIx b := by exact fun _ _ => rfl) : XE X (.Subscript a b pos) ρ ρ2 (aD X.K d) := fun E T t σ H l st Q k =>
  wE.of (pe_ix ix_tup peS peS hs) (ha E T t σ H l st _ fun x H1 st1 => hb E (_ :: T) (_ :: t) σ H1 (by simp [l]) st1 _ fun y H2 st2 => by
    obtain ⟨G, F, Fv, Fw, f, cs, q1, q2, _⟩ := ST.two st2
    cases q2
    obtain ⟨p, xs, e1, e2, e3⟩ := r l cs f.gh q1
    obtain ⟨v, e4, e5⟩ := atI_dq e3 h
    exact ⟨p, xs, i, v, e1, rfl, e2, e4, k v H2 (ST.put f cs e5)⟩)
/-- an item of an owned list of mixed things that is data -/
theorem Cs.getD {K : PySem.W.Frag} {G H : Hp} : ∀ {As : List OA} {vs : List V} {F : List Addr} {j : Nat}, Cs G H (As.map some) (vs.map some) F → As[j]? = some (aD K d) → ∃ v, vs[j]? = some v ∧ Dq K G v d := fun {As vs F j} c h => by
  obtain ⟨v, F1, F2, e1, e2, ⟨q, _⟩, c2⟩ := c.split (i := j) (A := aD K d) (by rw [List.getElem?_map, h]; rfl)
  rw [List.getElem?_map] at e1
  cases hv : vs[j]? with
  | none => rw [hv] at e1; cases e1
  | some w =>
    rw [hv] at e1
    cases e1
    exact ⟨v, rfl, q⟩
theorem xe_ixO (i : Nat) {v0 : V} {As : List OA} {j : Nat} {n : Int} (ha : XE X a ρ ρ1 (aV v0)) (hb : XE X b ρ1 ρ2 (aD X.K (.int n))) (hp : ρ2[i]? = some (some (pin v0 (aL As)))) (hn : ixN As.length n = some j) (h : As[j]? = some (aD X.K d)) (hs : PlainIx b := by exact fun _ _ => rfl) :
    XE X (.Subscript a b pos) ρ ρ2 (aD X.K d) := fun E T t σ H l st Q k =>
  wE.of (pe_ix ix_list peS peS hs) (ha E T t σ H l st _ fun x H1 st1 => hb E (_ :: T) (_ :: t) σ H1 (by simp [l]) st1 _ fun y H2 st2 => by
    obtain ⟨G, F, Fv, Fw, f, cs, ⟨q1, _⟩, q2, _⟩ := ST.two st2
    cases q2
    obtain ⟨v, F1, F2, e1, e2, ⟨e3, p, vs, F', e4, e5, h1, c1⟩, c2⟩ := cs.slot l hp
    subst q1 e3 e4
    obtain ⟨w, hw, q⟩ := c1.getD h
    have hl : vs.length = As.length := by simpa using c1.len.symm
    exact ⟨p, vs, n, w, rfl, rfl, .inl (.inl h1), by unfold atI; rw [hl, hn]; exact hw, k w H2 (ST.put f cs q)⟩)
end
/-- xs[lo:hi] -/
def cutL {α : Type} (xs : List α) (lo hi : Option Int) : List α := (xs.drop (HT.sIx xs.length 0 lo)).take (HT.sIx xs.length xs.length hi - HT.sIx xs.length 0 lo)
theorem cutL_map {α β : Type} (f : α → β) (xs : List α) (lo hi : Option Int) : cutL (xs.map f) lo hi = (cutL xs lo hi).map f := by
  unfold cutL
  rw [List.length_map, List.map_take, List.map_drop]
theorem cut_dq {K : PySem.W.Frag} {G : Hp} {vs : List V} {ds : List PyData} (lo hi : Option Int) (h : DqAll K G vs ds) : DqAll K G (cutV vs lo hi) (cutL ds lo hi) := by
  unfold cutV cutL
  rw [h.len]
  exact (h.drop _).take _
def uO (X : Cx) : Option Expr → TO
  | none => tNoPart
  | some e => tPart (wE X e)
theorem uO_po {X : Cx} : ∀ e : Option Expr, PO X e (uO X e)
  | none => po_none
  | some _ => po_some peS
def XO (X : Cx) (e : Option Expr) (ρ ρ' : Cl) (o : Option Int) : Prop := match e, o with
  | none, none => ρ = ρ'
  | some e, some i => XE X e ρ ρ' (aD X.K (.int i))
  | _, _ => False
section
variable {X : Cx} {ρ ρ1 ρ2 ρ3 : Cl} {a b c : Expr} {pos p2 : Pos} {A B : OA} {d d1 d2 : PyData} {ds es : List PyData}
theorem xe_slice {lo hi : Option Expr} {i j : Option Int} (ha : XE X a ρ ρ1 A) (hl : XO X lo ρ1 ρ2 i) (hh : XO X hi ρ2 ρ3 j) (r : Rls X.K ρ3 A ds) : XE X (.Subscript a (.Slice lo hi none p2) pos) ρ ρ3 (aLD X.K (cutL ds i j)) := fun E T t σ H l st Q k => by
  have part : ∀ {o : Option Expr} {n : Option Int} {ρ ρ' : Cl} {x : V} {H2 : Hp} {R : Option Int → Hp → Prop}, XO X o ρ ρ' n → ST E (some A :: (T ++ ρ)) (some x :: (t ++ σ)) H2 → (∀ H3, ST E (some A :: (T ++ ρ')) (some x :: (t ++ σ)) H3 → R n H3) → uO X o σ H2 R := fun {o n ρ ρ' x H2 R} h st k => by
    match o, n, h with
    | none, none, h =>
      cases (show ρ = ρ' from h)
      exact k _ st
    | some e, some n, h =>
      refine (show XE X e ρ ρ' (aD X.K (.int n)) from h) E (_ :: T) (_ :: t) σ H2 (by simp [l]) st _ fun y H3 st3 => ?_
      obtain ⟨G, F, f, cs, q⟩ := ST.top st3
      cases q
      exact ⟨n, rfl, k _ ⟨G, F, f, cs⟩⟩
  refine wE.of (pe_slice sl_list peS (uO_po lo) (uO_po hi)) (ha E T t σ H l st _ fun x H1 st1 => part hl st1 fun H2 st2 => part hh st2 fun H3 st3 => ?_)
  obtain ⟨G, F, Fv, f, cs, q⟩ := ST.one st3
  obtain ⟨p, xs, e1, e2, e3⟩ := r l cs f.gh q
  exact ⟨p, xs, e1, e2, fun p' hp => k _ _ (ST.newL f cs hp (cut_dq i j e3))⟩
/-! ### argument lists -/
theorem xa_nil : XA X [] ρ ρ [] := fun E T t σ H l st Q k => wA.of pa_nil (k [] H rfl st)
theorem xa_cons {es : List Expr} {As : List OA} (h : XE X a ρ ρ1 A) (hr : XA X es ρ1 ρ2 As) (hs : starEach (a :: es) X.env = (false, eval a X.env) :: starEach es X.env := by rfl) : XA X (a :: es) ρ ρ2 (A :: As) := fun E T t σ H l st Q k =>
  wA.of (pa_cons peS paS hs) (h E T t σ H l st _ fun x H1 st1 => hr E (_ :: T) (_ :: t) σ H1 (by simp [l]) st1 _ fun xs H2 hl st2 => by
    refine k (x :: xs) H2 (by simp [hl]) ?_
    obtain ⟨G, F, f, cs⟩ := st2
    obtain ⟨F1, F2, e1, c1, c2⟩ := cs.unappend (by simp [hl])
    obtain ⟨v, F3, F4, e2, e3, p, c3⟩ := c2
    subst e1 e3
    have perm : (F1 ++ (F3 ++ F4)).Perm (F3 ++ (F1 ++ F4)) := by
      rw [← List.append_assoc, ← List.append_assoc]
      exact List.Perm.append_right F4 List.perm_append_comm
    exact ⟨G, _, f.perm perm, v, F3, F1 ++ F4, e2, rfl, p, c1.append c3⟩)
/-- data as arguments -/
theorem ST.args {E : Ent} {K : PySem.W.Frag} {L : Cl} {C : L2.St} {H : Hp} {vs : List V} {ds : List PyData} (hl : vs.length = ds.length) (st : ST E ((ds.map (aD K)).map some ++ L) (vs.map some ++ C) H) : ∃ G F, Frm E G H F ∧ Cs G H L C F ∧ DqAll K G vs ds := by
  obtain ⟨G, F, f, cs⟩ := st
  obtain ⟨F1, F2, e1, c1, c2⟩ := cs.unappend (by simp [hl])
  obtain ⟨q1, q2⟩ := csD c1
  subst e1 q2
  exact ⟨G, F2, by simpa using f, c2, q1⟩
theorem xe_tup {es : List Expr} {x1 : Nat} (h : XA X es ρ ρ1 (ds.map (aD X.K))) (hz : ds.length ≤ 1000) : XE X (.Tuple es x1 pos) ρ ρ1 (aD X.K (.tuple ds)) := fun E T t σ H l st Q k =>
  wE.of (pe_tup paS) (h E T t σ H l st _ fun vs H1 hl st1 => by
    have hl' : vs.length = ds.length := by simpa using hl
    obtain ⟨G, F, f, cs, q⟩ := ST.args hl' st1
    exact ⟨by rw [hl']; exact Nat.le_trans hz (by decide), fun p hp => k _ _ (ST.newT f cs hp q)⟩)
theorem xe_lst {es : List Expr} {As : List OA} (h : XA X es ρ ρ1 As) (hz : As.length ≤ 1000) : XE X (.List es pos) ρ ρ1 (aL As) := fun E T t σ H l st Q k =>
  wE.of (pe_lst paS) (h E T t σ H l st _ fun vs H1 hl st1 => by
    refine ⟨by rw [hl]; exact Nat.le_trans hz (by decide), fun p hp => k _ _ ?_⟩
    obtain ⟨G, F, f, cs⟩ := st1
    obtain ⟨F1, F2, e1, c1, c2⟩ := cs.unappend (by simp [hl])
    subst e1
    obtain ⟨f1, keep⟩ := f.step (Fa := []) (Fr := F1 ++ F2) (by simp) (Frm.alloc (o := .lst vs) f.gh hp)
    have c3 := c1.mono (.refl _) f1.gh fun b hb => keep b (List.mem_append_left _ hb)
    have c4 := c2.mono (.refl _) f1.gh fun b hb => keep b (List.mem_append_right _ hb)
    exact ⟨G, _, f1, .ref p, p :: F1, F2, rfl, by simp, ⟨p, vs, F1, rfl, rfl, upd_same, c3⟩, c4⟩)
theorem xe_cat (ha : XE X a ρ ρ1 A) (hb : XE X b ρ1 ρ2 B) (ra : Rlm X.K ρ2 A ds) (rb : Rlm X.K ρ2 B es) (hz : ds.length + es.length ≤ sizeLine) : XE X (.BinOp a .Add b pos) ρ ρ2 (aLD X.K (ds ++ es)) := fun E T t σ H l st Q k =>
  wE.of (pe_op op_cat peS peS) (ha E T t σ H l st _ fun x H1 st1 => hb E (_ :: T) (_ :: t) σ H1 (by simp [l]) st1 _ fun y H2 st2 => by
    obtain ⟨G, F, Fv, Fw, f, cs, q1, q2⟩ := ST.two st2
    obtain ⟨p, xs, e1, e2, e3⟩ := ra l cs f.gh q1
    obtain ⟨p', ys, e4, e5, e6⟩ := rb l cs f.gh q2
    exact ⟨p, p', xs, ys, e1, e4, e2, e5, by rw [e3.len, e6.len]; exact hz, fun p'' hp => k _ _ (ST.newL f cs hp (e3.append e6))⟩)
theorem dq_rep {K : PySem.W.Frag} {G : Hp} {vs : List V} (h : DqAll K G vs ds) : ∀ n : Nat, DqAll K G (List.replicate n vs).flatten (List.replicate n ds).flatten
  | 0 => .nil
  | n + 1 => by
    rw [List.replicate_succ, List.replicate_succ, List.flatten_cons, List.flatten_cons]
    exact h.append (dq_rep h n)
end
end Mr

set_option Elab.async false
set_option linter.all false
set_option maxRecDepth 100000
namespace Mr
open PySem PySem.Spec PyProof.Rows L2

/-! ### statements -/
section
variable {X : Cx} {ρ ρ1 ρ2 ρ3 : Cl} {a b c e : Expr} {pos p2 : Pos} {A B : OA} {d d1 d2 : PyData} {ds es : List PyData} {st : Stmt} {rest sts : List Stmt} {ω β γ : Type} {m : Option ω} {Φ : ω → Ent → Ends → Prop} {R : γ → Cl} {N : β → Cl}
theorem xg_bind {α : Type} {m1 : Option α} {k : α → Option ω} (h : ∀ x, m1 = some x → XG X sts ρ (k x) Φ) : XG X sts ρ (m1.bind k) Φ := fun o ho => by
  cases hm : m1 with
  | none => rw [hm] at ho; cases ho
  | some x => rw [hm] at ho; exact h x hm o ho
/-- a name for a value -/
def lett {α β : Type} (v : α) (k : α → β) : β := k v
theorem xg_lett {α : Type} {v : α} {k : α → Option ω} (h : ∀ x, v = x → XG X sts ρ (k x) Φ) : XG X sts ρ (lett v k) Φ := h v rfl
theorem xg_wk (w : Wk ρ ρ1) (h : XG X sts ρ1 m Φ) : XG X sts ρ m Φ := fun o ho E σ H D st k => h o ho E σ H D (st.wk w) k
theorem xg_ite {p : Prop} [Decidable p] {m1 m2 : Option ω} (h1 : p → XG X sts ρ m1 Φ) (h2 : ¬ p → XG X sts ρ m2 Φ) : XG X sts ρ (if p then m1 else m2) Φ := by
  by_cases h : p
  · rw [if_pos h]; exact h1 h
  · rw [if_neg h]; exact h2 h
/-- the value of an owned thing is named -/
theorem xg_pin (i : Nat) (h : ρ[i]? = some (some A)) (k : ∀ v, XG X sts (ρ.set i (some (pin v A))) m Φ) : XG X sts ρ m Φ := fun o ho E σ H D st q => by
  obtain ⟨G, F, f, c⟩ := st
  obtain ⟨v, F1, F2, e1, e2, p, c2⟩ := Cs.slot (T := []) (t := []) rfl (by simpa using c) h
  obtain ⟨F3, e3, c3⟩ := Cs.back (T := []) (t := []) (A := pin v A) rfl c2 (lt_of_get h) e1 ⟨rfl, p⟩
  exact k v o ho E σ H D ⟨G, F3, f.perm (e2.trans e3.symm), by simpa using c3⟩ q
/-- at the end -/
theorem xg_nilS {b : β} (w : Wk ρ (N b)) : XG X [] ρ (some b) (oS N) := fun o ho E σ H D st q => by
  cases ho
  exact wS.of pss_nil (q σ H (st.wk w))
theorem xg_nilB {b : β} (w : Wk ρ (N b)) : XG X [] ρ (some (Sum.inr b)) (oB R N) := fun o ho E σ H D st q => by
  cases ho
  exact wS.of pss_nil (q σ H (st.wk w))
theorem xg_ret {r : γ} (h : XE X e ρ ρ1 A) (w : Wk (some A :: ρ1) (R r)) : XG X (.Return (some e) pos :: rest) ρ (some r) (oR R) := fun o ho E σ H D st q => by
  cases ho
  exact wS.of (pss_cons (ps_ret peS) pssS) (h E [] [] σ H rfl st _ fun v H' st1 => q v σ H' (ST.wk st1 w))
theorem xg_retB {r : γ} (h : XE X e ρ ρ1 A) (w : Wk (some A :: ρ1) (R r)) : XG X (.Return (some e) pos :: rest) ρ (some (Sum.inl r)) (oB R N) := fun o ho E σ H D st q => by
  cases ho
  exact wS.of (pss_cons (ps_ret peS) pssS) (h E [] [] σ H rfl st _ fun v H' st1 => q v σ H' (ST.wk st1 w))
theorem ST.putN {E : Ent} (K : PySem.W.Frag) {σ : L2.St} {H : Hp} (h : ST E ρ σ H) : ST E (some (aD K .none) :: ρ) (some .non :: σ) H := by
  obtain ⟨G, F, f, c⟩ := h
  exact ST.put f c .non
theorem xg_retN {r : γ} (w : Wk (some (aD X.K .none) :: ρ) (R r)) : XG X (.Return none pos :: rest) ρ (some r) (oR R) := fun o ho E σ H D st q => by
  cases ho
  exact wS.of (pss_cons ps_retN pssS) (q .non σ H (ST.wk (ST.putN X.K st) w))
theorem xg_retNB {r : γ} (w : Wk (some (aD X.K .none) :: ρ) (R r)) : XG X (.Return none pos :: rest) ρ (some (Sum.inl r)) (oB R N) := fun o ho E σ H D st q => by
  cases ho
  exact wS.of (pss_cons ps_retN pssS) (q .non σ H (ST.wk (ST.putN X.K st) w))
theorem xg_pass (h : XG X rest ρ m Φ) (q : PS X st tNext) : XG X (st :: rest) ρ m Φ := fun o ho E σ H D s1 k => wS.of (pss_cons q pssS) (h o ho E σ H D s1 k)
/-- x = e -/
theorem xg_asg (i : Nat) {x : Str} {pos' : Pos} (he : XE X e ρ ρ1 A) (h : XG X rest (ρ1.set i (some A)) m Φ) (hl : i < ρ1.length := by exact Nat.le_of_ble_eq_true rfl) (hN : X.N.Nodup := by assumption) (hi : X.N[i]? = some x := by rfl) (hx : Loc X.env.scope x := by first | exact .inl rfl | exact .inr rfl)
    (hs : swapsWith e (some (.Name x pos')) pos.line X.env = pure false := by rfl) (hf : X.fn x = true ∨ X.env.scope.names.lookup x = some .local := by first | exact .inl rfl | exact .inr rfl | assumption) : XG X (.Assign [.Name x pos'] e pos :: rest) ρ m Φ := fun o ho E σ H D st q =>
  wS.of (pss_cons (ps_set hN hi hx peS hs hf) pssS) (he E [] [] σ H rfl st _ fun v H' st1 => h o ho E _ H' D (ST.assign st1 hl) q)
/-- x = e, the thing is owned: its value is named -/
theorem xg_asgP (i : Nat) {x : Str} {pos' : Pos} (he : XE X e ρ ρ1 A) (h : ∀ v, XG X rest (ρ1.set i (some (pin v A))) m Φ) (hl : i < ρ1.length := by exact Nat.le_of_ble_eq_true rfl) (hN : X.N.Nodup := by assumption) (hi : X.N[i]? = some x := by rfl) (hx : Loc X.env.scope x := by first | exact .inl rfl | exact .inr rfl)
    (hs : swapsWith e (some (.Name x pos')) pos.line X.env = pure false := by rfl) (hf : X.fn x = true ∨ X.env.scope.names.lookup x = some .local := by first | exact .inl rfl | exact .inr rfl | assumption) : XG X (.Assign [.Name x pos'] e pos :: rest) ρ m Φ :=
  xg_asg i he (xg_pin i (List.getElem?_set_self hl) fun v => by rw [set_set]; exact h v) hl hN hi hx hs hf
theorem xg_expr (he : XE X e ρ ρ1 A) (h : XG X rest ρ1 m Φ) (hs : swapsWith e none pos.line X.env = pure false := by rfl) : XG X (.Expr e pos :: rest) ρ m Φ := fun o ho E σ H D st q =>
  wS.of (pss_cons (ps_expr peS hs) pssS) (he E [] [] σ H rfl st _ fun v H' st1 => h o ho E σ H' D st1.pop q)
/-- x op= e, ints -/
theorem xg_augI (i : Nat) {x : Str} {pos' : Pos} {op : Operator} {g : Int → Int → Int} {n k : Int} (ho : PIp X op (ipI g)) (hx0 : ρ[i]? = some (some (aD X.K (.int n)))) (he : XE X e ρ ρ1 (aD X.K (.int k))) (h : XG X rest (ρ1.set i (some (aD X.K (.int (g n k))))) m Φ) (hl : i < ρ1.length := by exact Nat.le_of_ble_eq_true rfl) (hN : X.N.Nodup := by assumption)
    (hi : X.N[i]? = some x := by rfl) (hx : Loc X.env.scope x := by first | exact .inl rfl | exact .inr rfl) (hf : X.fn x = true ∨ X.env.scope.names.lookup x = some .local := by first | exact .inl rfl | exact .inr rfl | assumption) : XG X (.AugAssign (.Name x pos') op e pos :: rest) ρ m Φ := fun o ho' E σ H D st q => by
  have st0 := st
  obtain ⟨G, F, f, cs⟩ := st
  obtain ⟨v, F1, F2, e1, e2, ⟨q1, e3⟩, c2⟩ := Cs.slot (T := []) (t := []) rfl cs hx0
  cases q1
  refine wS.of (pss_cons (ps_aug hN hi hx peS ho hf) pssS) ⟨.int n, e1, he E [] [] σ H rfl st0 _ fun v H' st1 => ?_⟩
  obtain ⟨G, F, f, c, q2⟩ := ST.top st1
  cases q2
  exact ⟨n, k, rfl, rfl, h o ho' E _ H' D (ST.assign (ST.put (v := .int (g n k)) f c (.int _)) hl) q⟩
/-- if -/
theorem xg_if {k : Bool} {t u : List Stmt} {m1 m2 : Option β} {kk : β → Option ω} (hc : XT X c ρ ρ1 k) (h1 : k = true → XG X t ρ1 m1 (oS N)) (h2 : k = false → XG X u ρ1 m2 (oS N)) (h : ∀ s, XG X rest (N s) (kk s) Φ) : XG X (.If c t u pos :: rest) ρ ((if k = true then m1 else m2).bind kk) Φ :=
  xg_bind fun s hs o ho E σ H D st q => wS.of (pss_cons (ps_if ptS pssS pssS) pssS) (hc E [] [] σ H rfl st _ fun H1 st1 => by
    cases k with
    | true => exact h1 rfl s hs E σ H1 { D with nx := wS X rest D } st1 fun σ' H' st2 => h s o ho E σ' H' D st2 q
    | false => exact h2 rfl s hs E σ H1 { D with nx := wS X rest D } st1 fun σ' H' st2 => h s o ho E σ' H' D st2 q)
/-- if c: (it returns); what follows is the other branch and the rest -/
theorem xg_ifR {k : Bool} {t u : List Stmt} {m1 : Option γ} {m2 : Option γ} (hc : XT X c ρ ρ1 k) (h1 : k = true → XG X t ρ1 m1 (oR R)) (h2 : k = false → XG X rest ρ1 m2 (oR R)) : XG X (.If c t [] pos :: rest) ρ (if k = true then m1 else m2) (oR R) := fun o ho E σ H D st q =>
  wS.of (pss_cons (ps_if ptS pssS pssS) pssS) (hc E [] [] σ H rfl st _ fun H1 st1 => by
    cases k with
    | true => exact h1 rfl o ho E σ H1 { D with nx := wS X rest D } st1 q
    | false => exact wS.of pss_nil (h2 rfl o ho E σ H1 D st1 q))
theorem xg_ifRB {k : Bool} {t u : List Stmt} {m1 : Option γ} {m2 : Option (γ ⊕ β)} (hc : XT X c ρ ρ1 k) (h1 : k = true → XG X t ρ1 m1 (oR R)) (h2 : k = false → XG X rest ρ1 m2 (oB R N)) : XG X (.If c t [] pos :: rest) ρ (if k = true then m1.map Sum.inl else m2) (oB R N) := fun o ho E σ H D st q =>
  wS.of (pss_cons (ps_if ptS pssS pssS) pssS) (hc E [] [] σ H rfl st _ fun H1 st1 => by
    cases k with
    | true =>
      rw [if_pos rfl] at ho
      cases m1 with
      | none => cases ho
      | some r =>
        cases ho
        exact h1 rfl r rfl E σ H1 { D with nx := wS X rest D } st1 q
    | false => exact wS.of pss_nil (h2 rfl o ho E σ H1 D st1 q))
/-- both return -/
theorem xg_ifRR {k : Bool} {t u : List Stmt} {m1 m2 : Option γ} (hc : XT X c ρ ρ1 k) (h1 : k = true → XG X t ρ1 m1 (oR R)) (h2 : k = false → XG X u ρ1 m2 (oR R)) : XG X (.If c t u pos :: rest) ρ (if k = true then m1 else m2) (oR R) := fun o ho E σ H D st q =>
  wS.of (pss_cons (ps_if ptS pssS pssS) pssS) (hc E [] [] σ H rfl st _ fun H1 st1 => by
    cases k with
    | true => exact h1 rfl o ho E σ H1 { D with nx := wS X rest D } st1 q
    | false => exact h2 rfl o ho E σ H1 { D with nx := wS X rest D } st1 q)
/-- a block of both kinds, then the rest -/
def thenR {ω : Type} (m : Option (γ ⊕ β)) (k : β → Option ω) (f : γ → ω) : Option ω := m.bind fun o => match o with
  | .inl r => some (f r)
  | .inr b => k b
theorem xg_ifB {k : Bool} {t u : List Stmt} {m1 m2 : Option (γ ⊕ β)} {kk : β → Option γ} (hc : XT X c ρ ρ1 k) (h1 : k = true → XG X t ρ1 m1 (oB R N)) (h2 : k = false → XG X u ρ1 m2 (oB R N)) (h : ∀ s, XG X rest (N s) (kk s) (oR R)) : XG X (.If c t u pos :: rest) ρ (thenR (if k = true then m1 else m2) kk id) (oR R) :=
  xg_bind fun s hs o ho E σ H D st q => wS.of (pss_cons (ps_if ptS pssS pssS) pssS) (hc E [] [] σ H rfl st _ fun H1 st1 => by
    have fin : ∀ {v : List Stmt} {m : Option (γ ⊕ β)}, XG X v ρ1 m (oB R N) → m = some s → wS X v { D with nx := wS X rest D } σ H1 := fun {v m} hv hm => by
      refine hv s hm E σ H1 { D with nx := wS X rest D } st1 ?_
      cases s with
      | inl r => cases ho; exact q
      | inr b => exact fun σ' H' st2 => h b o ho E σ' H' D st2 q
    cases k with
    | true => exact fin (h1 rfl) hs
    | false => exact fin (h2 rfl) hs)
theorem xg_ifBB {β' : Type} {N' : β' → Cl} {k : Bool} {t u : List Stmt} {m1 m2 : Option (γ ⊕ β)} {kk : β → Option (γ ⊕ β')} (hc : XT X c ρ ρ1 k) (h1 : k = true → XG X t ρ1 m1 (oB R N)) (h2 : k = false → XG X u ρ1 m2 (oB R N)) (h : ∀ s, XG X rest (N s) (kk s) (oB R N')) : XG X (.If c t u pos :: rest) ρ (thenR (if k = true then m1 else m2) kk Sum.inl) (oB R N') :=
  xg_bind fun s hs o ho E σ H D st q => wS.of (pss_cons (ps_if ptS pssS pssS) pssS) (hc E [] [] σ H rfl st _ fun H1 st1 => by
    have fin : ∀ {v : List Stmt} {m : Option (γ ⊕ β)}, XG X v ρ1 m (oB R N) → m = some s → wS X v { D with nx := wS X rest D } σ H1 := fun {v m} hv hm => by
      refine hv s hm E σ H1 { D with nx := wS X rest D } st1 ?_
      cases s with
      | inl r => cases ho; exact q
      | inr b => exact fun σ' H' st2 => h b o ho E σ' H' D st2 q
    cases k with
    | true => exact fin (h1 rfl) hs
    | false => exact fin (h2 rfl) hs)
/-- a block that only goes on | only returns, as one of both kinds -/
theorem xg_SB {m : Option β} (h : XG X sts ρ m (oS N)) : XG X sts ρ (m.map Sum.inr) (oB R N) := fun o ho E σ H D st q => by
  cases m with
  | none => cases ho
  | some r => cases ho; exact h r rfl E σ H D st q
theorem xg_RB {m : Option γ} (h : XG X sts ρ m (oR R)) : XG X sts ρ (m.map Sum.inl) (oB R N) := fun o ho E σ H D st q => by
  cases m with
  | none => cases ho
  | some r => cases ho; exact h r rfl E σ H D st q

end
/-! ### targets -/
def wG (X : Cx) (tg : Expr) : TG := fun v σ H Q => ∀ pins s u, Inv X pins σ H s → RelV v u → wpAny (model X.prog X.w) X.A (assign tg X.env u) (fun _ s' => ∃ σ' H', Inv X pins σ' H' s' ∧ Q σ' H') X.xe s
theorem pgS {X : Cx} {tg : Expr} : PG X tg (wG X tg) := ⟨fun pins s _ _ _ u _ I r h => h pins s u I r⟩
theorem wG.of {X : Cx} {tg : Expr} {g : TG} (h : PG X tg g) {v : V} {σ : L2.St} {H : Hp} {Q : L2.St → Hp → Prop} (q : g v σ H Q) : wG X tg v σ H Q := fun pins s u I r => h.run pins s σ H v u Q I r q
theorem wG.mono {X : Cx} {tg : Expr} {v : V} {σ : L2.St} {H : Hp} {P P' : L2.St → Hp → Prop} (h : wG X tg v σ H P) (k : ∀ σ' H', P σ' H' → P' σ' H') : wG X tg v σ H P' := fun pins s u I r => thn (h pins s u I r) fun _ _ ⟨σ', H', I', q⟩ => ⟨σ', H', I', k _ _ q⟩
/-- a thing of which A holds is stored: ρ becomes ρ' -/
def XP (X : Cx) (tg : Expr) (A : OA) (ρ ρ' : Cl) : Prop := ∀ (E : Ent) (T : Cl) (t σ : L2.St) (H : Hp) (v : V), T.length = t.length → ST E (some A :: (T ++ ρ)) (some v :: (t ++ σ)) H → ∀ Q : L2.St → Hp → Prop, (∀ σ' H', ST E (T ++ ρ') (t ++ σ') H' → Q σ' H') → wG X tg v σ H Q
theorem ST.assignT {E : Ent} {T ρ : Cl} {t σ : L2.St} {H : Hp} {A : OA} {v : V} {i : Nat} (l : T.length = t.length) (h : ST E (some A :: (T ++ ρ)) (some v :: (t ++ σ)) H) (hi : i < ρ.length) : ST E (T ++ ρ.set i (some A)) (t ++ σ.set i (some v)) H := by
  have q := ST.assign (i := T.length + i) h (by rw [List.length_append]; omega)
  rwa [append_set_right, l, append_set_right] at q
section
variable {X : Cx} {ρ ρ1 ρ2 ρ3 : Cl} {a b c e tg : Expr} {pos p2 : Pos} {A B : OA} {d d1 d2 : PyData} {ds es : List PyData} {st : Stmt} {rest sts body : List Stmt} {ω β γ α : Type} {m : Option ω} {Φ : ω → Ent → Ends → Prop} {R : γ → Cl} {N : β → Cl}
theorem xp_nm (i : Nat) {x : Str} (hl : i < ρ.length := by exact Nat.le_of_ble_eq_true rfl) (hN : X.N.Nodup := by assumption) (hi : X.N[i]? = some x := by rfl) (hx : Loc X.env.scope x := by first | exact .inl rfl | exact .inr rfl) (hf : X.fn x = true ∨ X.env.scope.names.lookup x = some .local := by first | exact .inl rfl | exact .inr rfl | assumption) :
    XP X (.Name x pos) A ρ (ρ.set i (some A)) := fun E T t σ H v l st Q k => wG.of (pg_name hN hi hx hf) (k _ _ (ST.assignT l st hl))
/-- several targets -/
def wGs (X : Cx) (ts : List Expr) : TGs := fun vs σ H Q => ∀ pins s us, Inv X pins σ H s → Vals vs us → wpAny (model X.prog X.w) X.A (assignInOrder ((assignEach ts X.env).map (·.2)) us) (fun _ s' => ∃ σ' H', Inv X pins σ' H' s' ∧ Q σ' H') X.xe s
theorem pgsS {X : Cx} {ts : List Expr} : PGs X ts (wGs X ts) := ⟨fun pins s _ _ _ us _ I r h => h pins s us I r⟩
theorem wGs.of {X : Cx} {ts : List Expr} {g : TGs} (h : PGs X ts g) {vs : List V} {σ : L2.St} {H : Hp} {Q : L2.St → Hp → Prop} (q : g vs σ H Q) : wGs X ts vs σ H Q := fun pins s us I r => h.run pins s σ H vs us Q I r q
def XPs (X : Cx) (ts : List Expr) (ds : List PyData) (ρ ρ' : Cl) : Prop := ∀ (E : Ent) (T : Cl) (t σ : L2.St) (H : Hp) (vs : List V), T.length = t.length → vs.length = ds.length → ST E ((ds.map (aD X.K)).map some ++ (T ++ ρ)) (vs.map some ++ (t ++ σ)) H → ∀ Q : L2.St → Hp → Prop, (∀ σ' H', ST E (T ++ ρ') (t ++ σ') H' → Q σ' H') → wGs X ts vs σ H Q
theorem xps_nil : XPs X [] [] ρ ρ := fun E T t σ H vs l hl st Q k => by
  cases vs with
  | nil => exact wGs.of pgs_nil ⟨rfl, k σ H st⟩
  | cons _ _ => simp at hl
theorem xps_cons {ts : List Expr} (h : XP X tg (aD X.K d) ρ ρ1) (hr : XPs X ts ds ρ1 ρ2) (hs : (assignEach (tg :: ts) X.env).map (·.2) = assign tg X.env :: (assignEach ts X.env).map (·.2) := by rfl) : XPs X (tg :: ts) (d :: ds) ρ ρ2 := fun E T t σ H vs l hl st Q k => by
  cases vs with
  | nil => simp at hl
  | cons v vs =>
    have hl' : vs.length = ds.length := by simpa using hl
    refine wGs.of (pgs_cons pgS pgsS hs) ⟨v, vs, rfl, h E ((ds.map (aD X.K)).map some ++ T) (vs.map some ++ t) σ H v (by simp [l, hl']) (by simpa using st) _ fun σ' H' st' => ?_⟩
    exact hr E T t σ' H' vs l hl' (by simpa using st') Q k
theorem ST.untup {E : Ent} {K : PySem.W.Frag} {L : Cl} {C : L2.St} {H : Hp} {v : V} (st : ST E (some (aD K (.tuple ds)) :: L) (some v :: C) H) : ∃ a vs, v = .ref a ∧ SqT K H a vs ∧ vs.length = ds.length ∧ ST E ((ds.map (aD K)).map some ++ L) (vs.map some ++ C) H := by
  obtain ⟨G, F, f, c, q⟩ := ST.top st
  cases q with
  | tup h1 h2 => exact ⟨_, _, rfl, f.gh.st h1, h2.len, G, F, f, by simpa using (csD' h2).append c⟩
theorem xp_tup {ts : List Expr} {k : Nat} (hc : X.calm = true) (h : XPs X ts ds ρ ρ1) (hn : (assignEach ts X.env).length = ds.length := by rfl) (hst : (assignEach ts X.env).findIdx? (·.1) = none := by rfl) : XP X (.Tuple ts k pos) (aD X.K (.tuple ds)) ρ ρ1 := fun E T t σ H v l st Q kk => by
  obtain ⟨a, vs, e1, h1, h2, st2⟩ := st.untup
  exact wG.of (pg_tup hc pgsS hn hst) ⟨a, vs, e1, h1, h2, h E T t σ H vs l h2 st2 Q kk⟩
/-- target = e -/
theorem xg_tgt (he : XE X e ρ ρ1 A) (hg : XP X tg A ρ1 ρ2) (h : XG X rest ρ2 m Φ) (hs : swapsWithSole [tg] e pos.line X.env = pure false := by rfl) (hw : swappedStores [tg] e X.env = pure none := by rfl)
    (h1 : (assignEach [tg] X.env).map (·.2) = [assign tg X.env] := by rfl) : XG X (.Assign [tg] e pos :: rest) ρ m Φ := fun o ho E σ H D st q =>
  wS.of (pss_cons (ps_asg peS pgS hs hw h1) pssS) (he E [] [] σ H rfl st _ fun v H' st1 => hg E [] [] σ H' v rfl st1 _ fun σ' H'' st2 => h o ho E σ' H'' D st2 q)

/-! ### loops -/
def foldB {α : Type} (f : β → α → Option (γ ⊕ β)) : List α → β → Option (γ ⊕ β)
  | [], s => some (.inr s)
  | x :: xs, s => thenR (f s x) (foldB f xs) Sum.inl
/-- the words of a loop over things xs -/
theorem forS {g : TG} {xs : List α} {f : β → α → Option β} {s0 : β} {In : α → β → Cl} {D : Ends} {E : Ent} {σ : L2.St} {H : Hp} {s1 : β}
    (J : It) (hs : xs.foldlM f s0 = some s1) (st : ST E (N s0) σ H) (hk : ∀ σ' H', ST E (N s1) σ' H' → D.nx σ' H')
    (go : ∀ n s σ' H', n < xs.length → ST E (N s) σ' H' → J.go n H') (stop : ∀ s σ' H', ST E (N s) σ' H' → J.stop xs.length H')
    (yld : ∀ n x s σ' H' v H2, xs[n]? = some x → ST E (N s) σ' H' → J.yld n H' v H2 → ∀ P : L2.St → Hp → Prop, (∀ σ2 H3, ST E (In x s) σ2 H3 → P σ2 H3) → g v σ' H2 P)
    (hb : ∀ x s, XG X body (In x s) (f s x) (oS N)) :
    ∃ W : Nat → Nat → L2.St → Hp → Prop, (∃ m, W 0 m σ H) ∧ ∀ i m σ H, W i m σ H →
      (J.stop i H ∧ D.nx σ H) ∨ (J.go i H ∧ ∃ Nx : L2.St → Hp → Prop, (∀ σ' H', Nx σ' H' → ∃ m', m' < m ∧ W (i + 1) m' σ' H') ∧ ∀ x H', J.yld i H x H' → g x σ H' fun σ2 H2 => wS X body { D with nx := Nx, ct := Nx, bk := D.nx } σ2 H2) := by
  refine ⟨fun n m σ H => m = xs.length - n ∧ n ≤ xs.length ∧ ∃ s, (xs.drop n).foldlM f s = some s1 ∧ ST E (N s) σ H, ⟨xs.length, by simp, Nat.zero_le _, s0, by simpa using hs, st⟩, ?_⟩
  rintro n m σ H ⟨rfl, hn, s, hf, st⟩
  by_cases hlt : n < xs.length
  · have ed : xs.drop n = xs[n] :: xs.drop (n + 1) := List.drop_eq_getElem_cons hlt
    rw [ed, List.foldlM_cons] at hf
    cases hfx : f s xs[n] with
    | none => rw [hfx] at hf; cases hf
    | some s2 =>
      rw [hfx] at hf
      refine .inr ⟨go n s σ H hlt st, fun σ' H' => ST E (N s2) σ' H', fun σ' H' st' => ⟨xs.length - (n + 1), by omega, rfl, hlt, s2, hf, st'⟩, fun v H' y => ?_⟩
      refine yld n xs[n] s σ H v H' (List.getElem?_eq_getElem hlt) st y _ fun σ2 H2 p => ?_
      exact hb xs[n] s s2 hfx E σ2 H2 _ p fun σ' H' st' => st'
  · have e : n = xs.length := by omega
    subst e
    rw [List.drop_length] at hf
    cases hf
    exact .inl ⟨stop _ σ H st, hk σ H st⟩
theorem forB {g : TG} {xs : List α} {f : β → α → Option (γ ⊕ β)} {s0 : β} {In : α → β → Cl} {D : Ends} {E : Ent} {σ : L2.St} {H : Hp} {o1 : γ ⊕ β}
    (J : It) (hs : foldB f xs s0 = some o1) (st : ST E (N s0) σ H) (hk : ∀ s1, o1 = .inr s1 → ∀ σ' H', ST E (N s1) σ' H' → D.nx σ' H') (hr : ∀ r, o1 = .inl r → oR R r E D)
    (go : ∀ n s σ' H', n < xs.length → ST E (N s) σ' H' → J.go n H') (stop : ∀ s σ' H', ST E (N s) σ' H' → J.stop xs.length H')
    (yld : ∀ n x s σ' H' v H2, xs[n]? = some x → ST E (N s) σ' H' → J.yld n H' v H2 → ∀ P : L2.St → Hp → Prop, (∀ σ2 H3, ST E (In x s) σ2 H3 → P σ2 H3) → g v σ' H2 P)
    (hb : ∀ x s, XG X body (In x s) (f s x) (oB R N)) :
    ∃ W : Nat → Nat → L2.St → Hp → Prop, (∃ m, W 0 m σ H) ∧ ∀ i m σ H, W i m σ H →
      (J.stop i H ∧ D.nx σ H) ∨ (J.go i H ∧ ∃ Nx : L2.St → Hp → Prop, (∀ σ' H', Nx σ' H' → ∃ m', m' < m ∧ W (i + 1) m' σ' H') ∧ ∀ x H', J.yld i H x H' → g x σ H' fun σ2 H2 => wS X body { D with nx := Nx, ct := Nx, bk := D.nx } σ2 H2) := by
  refine ⟨fun n m σ H => m = xs.length - n ∧ n ≤ xs.length ∧ ∃ s, foldB f (xs.drop n) s = some o1 ∧ ST E (N s) σ H, ⟨xs.length, by simp, Nat.zero_le _, s0, by simpa using hs, st⟩, ?_⟩
  rintro n m σ H ⟨rfl, hn, s, hf, st⟩
  by_cases hlt : n < xs.length
  · have ed : xs.drop n = xs[n] :: xs.drop (n + 1) := List.drop_eq_getElem_cons hlt
    rw [ed] at hf
    have hf : thenR (f s xs[n]) (foldB f (xs.drop (n + 1))) Sum.inl = some o1 := hf
    unfold thenR at hf
    cases hfx : f s xs[n] with
    | none => rw [hfx] at hf; cases hf
    | some o2 =>
      rw [hfx] at hf
      cases o2 with
      | inr s2 =>
        have hf : foldB f (xs.drop (n + 1)) s2 = some o1 := hf
        refine .inr ⟨go n s σ H hlt st, fun σ' H' => ST E (N s2) σ' H', fun σ' H' st' => ⟨xs.length - (n + 1), by omega, rfl, hlt, s2, hf, st'⟩, fun v H' y => ?_⟩
        refine yld n xs[n] s σ H v H' (List.getElem?_eq_getElem hlt) st y _ fun σ2 H2 p => ?_
        exact hb xs[n] s _ hfx E σ2 H2 _ p fun σ' H' st' => st'
      | inl r =>
        have hf : some (Sum.inl r) = some o1 := hf
        cases hf
        refine .inr ⟨go n s σ H hlt st, fun σ' H' => False, fun σ' H' st' => st'.elim, fun v H' y => ?_⟩
        refine yld n xs[n] s σ H v H' (List.getElem?_eq_getElem hlt) st y _ fun σ2 H2 p => ?_
        exact hb xs[n] s _ hfx E σ2 H2 _ p (hr r rfl)
  · have e : n = xs.length := by omega
    subst e
    rw [List.drop_length] at hf
    have hf : some (Sum.inr s) = some o1 := hf
    cases hf
    exact .inl ⟨stop s σ H st, hk s rfl σ H st⟩

end
end Mr

set_option Elab.async false
set_option linter.all false
set_option maxRecDepth 100000
namespace Mr
open PySem PySem.Spec PyProof.Rows L2

/-! ### a later entry -/
def Later (E' E : Ent) : Prop := ∀ L C H, ST E' L C H → ST E L C H
theorem Later.refl (E : Ent) : Later E E := fun _ _ _ h => h
theorem Later.of {E : Ent} {G H : Hp} {F : List Addr} (f : Frm E G H F) : Later ⟨G, H, F⟩ E := fun L C H' ⟨G', F', f', c⟩ => by
  obtain ⟨f1, _⟩ := f.step (Fa := F) (Fr := []) (by simp) f'
  exact ⟨G', F', by simpa using f1, c⟩
def rangeI (lo : Int) (n : Nat) : List Int := (List.range n).map fun i : Nat => lo + (i : Int)
theorem rangeI_len (lo : Int) (n : Nat) : (rangeI lo n).length = n := by unfold rangeI; rw [List.length_map, List.length_range]
theorem rangeI_get {lo : Int} {n i : Nat} {x : Int} (h : (rangeI lo n)[i]? = some x) : x = lo + (i : Int) ∧ i < n := by
  have hl := lt_of_get h
  rw [rangeI_len] at hl
  unfold rangeI at h
  rw [List.getElem?_map, List.getElem?_range hl] at h
  cases h
  exact ⟨rfl, hl⟩

/-! ### what is walked -/
def wI (X : Cx) (tg iter : Expr) : TI := fun σ H R => ∀ pins s, Inv X pins σ H s → wpAny (model X.prog X.w) X.A (eval iter X.env) (fun v s1 => wpAny (model X.prog X.w) X.A (pyIter v) (PIE X pins σ tg R) X.xe s1) X.xe s
theorem piS {X : Cx} {tg iter : Expr} : PI X tg iter (wI X tg iter) := ⟨fun pins s _ _ _ I h => h pins s I⟩
theorem wI.of {X : Cx} {tg iter : Expr} {w : TI} (h : PI X tg iter w) {σ : L2.St} {H : Hp} {R : It → Hp → Prop} (q : w σ H R) : wI X tg iter σ H R := fun pins s I => h.run pins s σ H R I q
structure Gives {α : Type} (J : It) (E : Ent) (Ok : Cl → Prop) (xs : List α) (cv : α → OA) : Prop where
  go : ∀ n, n < xs.length → ∀ T t L C H, T.length = t.length → Ok L → ST E (T ++ L) (t ++ C) H → J.go n H
  stop : ∀ T t L C H, T.length = t.length → Ok L → ST E (T ++ L) (t ++ C) H → J.stop xs.length H
  yld : ∀ n x v H H', xs[n]? = some x → ∀ T t L C, T.length = t.length → Ok L → ST E (T ++ L) (t ++ C) H → J.yld n H v H' → ST E (some (cv x) :: (T ++ L)) (some v :: (t ++ C)) H'
/-- xs: what is walked, cv: what holds of an item -/
def XI (X : Cx) {α : Type} (tg iter : Expr) (ρ ρ1 : Cl) (Ok : Cl → Prop) (xs : List α) (cv : α → OA) : Prop := ∀ (E : Ent) (T : Cl) (t σ : L2.St) (H : Hp), T.length = t.length → ST E (T ++ ρ) (t ++ σ) H →
  ∀ R : It → Hp → Prop, (∀ J E' H', Later E' E → ST E' (T ++ ρ1) (t ++ σ) H' → Gives J E' Ok xs cv → R J H') → wI X tg iter σ H R
abbrev okAll : Cl → Prop := fun _ => True
section
variable {X : Cx} {ρ ρ1 ρ2 ρ3 : Cl} {a b c e tg iter : Expr} {pos p2 p : Pos} {A B : OA} {d d1 d2 : PyData} {ds es : List PyData} {α β γ ω : Type}
theorem itr_gives {E : Ent} (lo : Int) (n : Nat) : Gives (Itr lo n) E okAll (rangeI lo n) (fun x => aD X.K (.int x)) where
  go := fun i hi _ _ _ _ _ _ _ _ => by rw [rangeI_len] at hi; exact hi
  stop := fun _ _ _ _ _ _ _ _ => by rw [rangeI_len]; exact Nat.le_refl _
  yld := fun i x v H H' hx T t L C l _ st y => by
    obtain ⟨e1, e2⟩ := y
    obtain ⟨e3, _⟩ := rangeI_get hx
    subst e1 e2 e3
    obtain ⟨G, F, f, c⟩ := st
    exact ST.put f c (.int _)
theorem xi_range1 {n : Int} (hg : Gl X "range") (hm : X.mg "range" = none) (ha : XE X a ρ ρ1 (aD X.K (.int n))) (hn : -(2 ^ 62) ≤ n ∧ n < 2 ^ 62) (hs : starEach [a] X.env = [(false, eval a X.env)] := by rfl) :
    XI X tg (.Call (.Name "range" p) [a] [] pos) ρ ρ1 okAll (rangeI 0 n.toNat) (fun x => aD X.K (.int x)) := fun E T t σ H l st R k =>
  wI.of (pi_range1 hg hm (pa_cons peS pa_nil hs) hs) (ha E T t σ H l st _ fun v H1 st1 => by
    obtain ⟨G, F, f, cs, q⟩ := ST.top st1
    cases q
    exact ⟨n, rfl, hn.1, hn.2, k _ E _ (.refl _) ⟨G, F, f, cs⟩ (itr_gives 0 n.toNat)⟩)
theorem xi_range2 {n m : Int} (hg : Gl X "range") (hm : X.mg "range" = none) (ha : XE X a ρ ρ1 (aD X.K (.int n))) (hb : XE X b ρ1 ρ2 (aD X.K (.int m))) (hn : (-(2 ^ 62) ≤ n ∧ n < 2 ^ 62) ∧ (-(2 ^ 62) ≤ m ∧ m < 2 ^ 62))
    (hs : starEach [a, b] X.env = [(false, eval a X.env), (false, eval b X.env)] := by rfl) (hs2 : starEach [b] X.env = [(false, eval b X.env)] := by rfl) :
    XI X tg (.Call (.Name "range" p) [a, b] [] pos) ρ ρ2 okAll (rangeI n (m - n).toNat) (fun x => aD X.K (.int x)) := fun E T t σ H l st R k =>
  wI.of (pi_range2 hg hm (pa_cons peS (pa_cons peS pa_nil hs2) (by rw [hs, hs2])) hs hs2) (ha E T t σ H l st _ fun v H1 st1 => hb E (_ :: T) (_ :: t) σ H1 (by simp [l]) st1 _ fun w H2 st2 => by
    obtain ⟨G, F, f, cs, q1, q2⟩ := ST.top2 st2
    cases q1
    cases q2
    exact ⟨n, m, rfl, ⟨hn.1.1, hn.1.2, hn.2.1, hn.2.2⟩, k _ E _ (.refl _) ⟨G, F, f, cs⟩ (itr_gives n (m - n).toNat)⟩)
/-- a list of data that stays -/
theorem itl_gives {E : Ent} {p : Addr} {vs : List V} {xs : List α} {cv : α → PyData} (h : SqL X.K E.G p vs) (q : DqAll X.K E.G vs (xs.map cv)) : Gives (Itl X.K p) E okAll xs (fun x => aD X.K (cv x)) where
  go := fun i hi T t L C H l _ st => by
    obtain ⟨G, F, f, c⟩ := st
    have hl : i < vs.length := by rw [q.len, List.length_map]; exact hi
    exact ⟨vs, vs[i], f.gh.sl (f.gg.sl h), List.getElem?_eq_getElem hl⟩
  stop := fun T t L C H l _ st => by
    obtain ⟨G, F, f, c⟩ := st
    exact ⟨vs, f.gh.sl (f.gg.sl h), by rw [q.len, List.length_map]; exact Nat.le_refl _⟩
  yld := fun i x v H H' hx T t L C l _ st y => by
    obtain ⟨G, F, f, c⟩ := st
    obtain ⟨e1, e2⟩ := y
    have e3 := e2 vs (f.gh.sl (f.gg.sl h))
    obtain ⟨w, e4, e5⟩ := q.get (i := i) (d := cv x) (by rw [List.getElem?_map, hx]; rfl)
    rw [e3] at e4
    cases e4
    subst e1
    exact ST.put f c (Dq.mono f.gg _ _ e5)
theorem itt_gives {E : Ent} {p : Addr} {vs : List V} {xs : List α} {cv : α → PyData} (h : SqT X.K E.G p vs) (q : DqAll X.K E.G vs (xs.map cv)) : Gives (Itt X.K p) E okAll xs (fun x => aD X.K (cv x)) where
  go := fun i hi T t L C H l _ st => by
    obtain ⟨G, F, f, c⟩ := st
    have hl : i < vs.length := by rw [q.len, List.length_map]; exact hi
    exact ⟨vs, vs[i], f.gh.st (f.gg.st h), List.getElem?_eq_getElem hl⟩
  stop := fun T t L C H l _ st => by
    obtain ⟨G, F, f, c⟩ := st
    exact ⟨vs, f.gh.st (f.gg.st h), by rw [q.len, List.length_map]; exact Nat.le_refl _⟩
  yld := fun i x v H H' hx T t L C l _ st y => by
    obtain ⟨G, F, f, c⟩ := st
    obtain ⟨e1, e2⟩ := y
    have e3 := e2 vs (f.gh.st (f.gg.st h))
    obtain ⟨w, e4, e5⟩ := q.get (i := i) (d := cv x) (by rw [List.getElem?_map, hx]; rfl)
    rw [e3] at e4
    cases e4
    subst e1
    exact ST.put f c (Dq.mono f.gg _ _ e5)
theorem xi_list {xs : List α} {cv : α → PyData} (h : XE X iter ρ ρ1 (aD X.K (.list (xs.map cv)))) : XI X tg iter ρ ρ1 okAll xs (fun x => aD X.K (cv x)) := fun E T t σ H l st R k =>
  wI.of (pi_list peS) (h E T t σ H l st _ fun v H1 st1 => by
    obtain ⟨G, F, f, cs, q⟩ := ST.top st1
    cases q with
    | lst h1 h2 => exact ⟨_, rfl, ⟨_, .inl (.inl (f.gh _ _ h1))⟩, k _ ⟨G, H1, F⟩ _ (Later.of f) ⟨G, F, f.start, cs⟩ (itl_gives (.inl (.inl h1)) h2)⟩)
theorem xi_scr {xs : List α} {cv : α → PyData} (h : XE X iter ρ ρ1 (aR X.K (xs.map cv))) : XI X tg iter ρ ρ1 okAll xs (fun x => aD X.K (cv x)) := fun E T t σ H l st R k =>
  wI.of (pi_list peS) (h E T t σ H l st _ fun v H1 st1 => by
    obtain ⟨G, F, Fv, f, cs, ⟨a, vs, e1, h1, h2⟩, _⟩ := ST.one st1
    exact ⟨a, e1, ⟨_, f.gh.sl h1⟩, k _ ⟨G, H1, F⟩ _ (Later.of f) ⟨G, F, f.start, cs⟩ (itl_gives h1 h2)⟩)
theorem xi_tup {xs : List α} {cv : α → PyData} (h : XE X iter ρ ρ1 (aD X.K (.tuple (xs.map cv)))) : XI X tg iter ρ ρ1 okAll xs (fun x => aD X.K (cv x)) := fun E T t σ H l st R k =>
  wI.of (pi_tup peS) (h E T t σ H l st _ fun v H1 st1 => by
    obtain ⟨G, F, f, cs, q⟩ := ST.top st1
    cases q with
    | tup h1 h2 => exact ⟨_, rfl, ⟨_, f.gh.st h1⟩, k _ ⟨G, H1, F⟩ _ (Later.of f) ⟨G, F, f.start, cs⟩ (itt_gives h1 h2)⟩)
/-- an owned list of data that stands in the slot i, as it is through all turns -/
theorem xi_own (i : Nat) {v0 : V} {xs : List α} {cv : α → PyData} (h : XE X iter ρ ρ1 (aV v0)) (hi : ρ1[i]? = some (some (pin v0 (aLD X.K (xs.map cv))))) : XI X tg iter ρ ρ1 (fun L => L[i]? = some (some (pin v0 (aLD X.K (xs.map cv))))) xs (fun x => aD X.K (cv x)) := fun E T t σ H l st R k => by
  have rd : ∀ {E : Ent} {T : Cl} {t : L2.St} {L : Cl} {C : L2.St} {H : Hp}, T.length = t.length → L[i]? = some (some (pin v0 (aLD X.K (xs.map cv)))) → ST E (T ++ L) (t ++ C) H → ∃ p vs G F, v0 = .ref p ∧ SqL X.K H p vs ∧ Frm E G H F ∧ Cs G H (T ++ L) (t ++ C) F ∧ DqAll X.K G vs (xs.map cv) := fun {E T t L C H} l hL st => by
    obtain ⟨G, F, f, c⟩ := st
    obtain ⟨p, vs, e1, e2, e3⟩ := rmO (K := X.K) i hL l c f.gh (v := v0) (Fv := []) ⟨rfl, rfl⟩
    exact ⟨p, vs, G, F, e1, .inl (.inl e2), f, c, e3⟩
  refine wI.of (pi_list peS) (h E T t σ H l st _ fun v H1 st1 => ?_)
  obtain ⟨G, F, Fv, f, cs, e0, _⟩ := ST.one st1
  have st2 : ST E (T ++ ρ1) (t ++ σ) H1 := ⟨G, F, f, cs⟩
  obtain ⟨p, vs, G', F', e1, h1, _, _, _⟩ := rd l hi st2
  subst e0 e1
  refine ⟨p, rfl, ⟨_, h1⟩, k _ E _ (.refl _) st2 ⟨fun n hn T t L C H l ok st => ?_, fun T t L C H l ok st => ?_, fun n x v H H' hx T t L C l ok st y => ?_⟩⟩
  · obtain ⟨p', vs', G2, F2, e1, h1, _, _, q⟩ := rd l ok st
    cases e1
    have hl : n < vs'.length := by rw [q.len, List.length_map]; exact hn
    exact ⟨vs', vs'[n], h1, List.getElem?_eq_getElem hl⟩
  · obtain ⟨p', vs', G2, F2, e1, h1, _, _, q⟩ := rd l ok st
    cases e1
    exact ⟨vs', h1, by rw [q.len, List.length_map]; exact Nat.le_refl _⟩
  · obtain ⟨p', vs', G2, F2, e1, h1, f2, c2, q⟩ := rd l ok st
    cases e1
    obtain ⟨e1, e2⟩ := y
    have e3 := e2 vs' h1
    obtain ⟨w, e4, e5⟩ := q.get (i := n) (d := cv x) (by rw [List.getElem?_map, hx]; rfl)
    rw [e3] at e4
    cases e4
    subst e1
    exact ST.put f2 c2 e5

variable {body rest : List Stmt} {m : Option ω} {Φ : ω → Ent → Ends → Prop} {R : γ → Cl} {N : β → Cl}
/-- for, each turn goes on -/
theorem xg_for {Ok : Cl → Prop} {xs : List α} {cv : α → OA} {f : β → α → Option β} {s0 : β} {In : α → β → Cl} {kk : β → Option ω} (hp : PassesOwn (model X.prog X.w) X.A X.env X.xe) (hc : X.calm = true) (hi : XI X tg iter ρ ρ1 Ok xs cv) (hw : Wk ρ1 (N s0)) (hok : ∀ s, Ok (N s))
    (ht : ∀ x s, XP X tg (cv x) (N s) (In x s)) (hb : ∀ x s, XG X body (In x s) (f s x) (oS N)) (h : ∀ s, XG X rest (N s) (kk s) Φ) (hs : ∀ x, foldedSetIterable iter X.env x = pure x := by intro _; rfl) :
    XG X (.For tg iter body [] pos :: rest) ρ ((xs.foldlM f s0).bind kk) Φ :=
  xg_bind fun s1 h1 o ho E σ H D st q => wS.of (pss_cons (ps_for hp hc piS pgS pssS hs) pssS) (hi E [] [] σ H rfl st _ fun J E' H' lt st' gv =>
    forS (N := N) (In := In) (E := E') J h1 (st'.wk hw) (fun σ' H' s2 => h s1 o ho E σ' H' D (lt _ _ _ s2) q)
      (fun n s σ' H' hn st2 => gv.go n hn [] [] _ _ _ rfl (hok s) st2) (fun s σ' H' st2 => gv.stop [] [] _ _ _ rfl (hok s) st2)
      (fun n x s σ' H' v H2 hx st2 y P hP => ht x s E' [] [] σ' H2 v rfl (gv.yld n x v H' H2 hx [] [] _ _ rfl (hok s) st2 y) P hP) hb)
/-- for, a turn may return -/
theorem xg_forR {Ok : Cl → Prop} {xs : List α} {cv : α → OA} {f : β → α → Option (γ ⊕ β)} {s0 : β} {In : α → β → Cl} {kk : β → Option γ} (hp : PassesOwn (model X.prog X.w) X.A X.env X.xe) (hc : X.calm = true) (hi : XI X tg iter ρ ρ1 Ok xs cv) (hw : Wk ρ1 (N s0)) (hok : ∀ s, Ok (N s))
    (ht : ∀ x s, XP X tg (cv x) (N s) (In x s)) (hb : ∀ x s, XG X body (In x s) (f s x) (oB R N)) (h : ∀ s, XG X rest (N s) (kk s) (oR R)) (hs : ∀ x, foldedSetIterable iter X.env x = pure x := by intro _; rfl) :
    XG X (.For tg iter body [] pos :: rest) ρ (thenR (foldB f xs s0) kk id) (oR R) :=
  xg_bind fun s1 h1 o ho E σ H D st q => wS.of (pss_cons (ps_for hp hc piS pgS pssS hs) pssS) (hi E [] [] σ H rfl st _ fun J E' H' lt st' gv =>
    forB (N := N) (In := In) (E := E') (R := R) J h1 (st'.wk hw) (fun s e σ' H' s2 => by
        subst e
        exact h s o ho E σ' H' D (lt _ _ _ s2) q)
      (fun r e => by
        subst e
        cases ho
        exact fun v σ' H' s2 => q v σ' H' (lt _ _ _ s2))
      (fun n s σ' H' hn st2 => gv.go n hn [] [] _ _ _ rfl (hok s) st2) (fun s σ' H' st2 => gv.stop [] [] _ _ _ rfl (hok s) st2)
      (fun n x s σ' H' v H2 hx st2 y P hP => ht x s E' [] [] σ' H2 v rfl (gv.yld n x v H' H2 hx [] [] _ _ rfl (hok s) st2 y) P hP) hb)
theorem xg_forRB {β' : Type} {N' : β' → Cl} {Ok : Cl → Prop} {xs : List α} {cv : α → OA} {f : β → α → Option (γ ⊕ β)} {s0 : β} {In : α → β → Cl} {kk : β → Option (γ ⊕ β')} (hp : PassesOwn (model X.prog X.w) X.A X.env X.xe) (hc : X.calm = true) (hi : XI X tg iter ρ ρ1 Ok xs cv) (hw : Wk ρ1 (N s0)) (hok : ∀ s, Ok (N s))
    (ht : ∀ x s, XP X tg (cv x) (N s) (In x s)) (hb : ∀ x s, XG X body (In x s) (f s x) (oB R N)) (h : ∀ s, XG X rest (N s) (kk s) (oB R N')) (hs : ∀ x, foldedSetIterable iter X.env x = pure x := by intro _; rfl) :
    XG X (.For tg iter body [] pos :: rest) ρ (thenR (foldB f xs s0) kk Sum.inl) (oB R N') :=
  xg_bind fun s1 h1 o ho E σ H D st q => wS.of (pss_cons (ps_for hp hc piS pgS pssS hs) pssS) (hi E [] [] σ H rfl st _ fun J E' H' lt st' gv =>
    forB (N := N) (In := In) (E := E') (R := R) J h1 (st'.wk hw) (fun s e σ' H' s2 => by
        subst e
        exact h s o ho E σ' H' D (lt _ _ _ s2) q)
      (fun r e => by
        subst e
        cases ho
        exact fun v σ' H' s2 => q v σ' H' (lt _ _ _ s2))
      (fun n s σ' H' hn st2 => gv.go n hn [] [] _ _ _ rfl (hok s) st2) (fun s σ' H' st2 => gv.stop [] [] _ _ _ rfl (hok s) st2)
      (fun n x s σ' H' v H2 hx st2 y P hP => ht x s E' [] [] σ' H2 v rfl (gv.yld n x v H' H2 hx [] [] _ _ rfl (hok s) st2 y) P hP) hb)
/-- while -/
def whileO (c : β → Option Bool) (f : β → Option β) : Nat → β → Option β
  | 0, _ => none
  | n + 1, s => (c s).bind fun b => if b = true then (f s).bind (whileO c f n) else some s
theorem xg_while {cb : β → Option Bool} {f : β → Option β} {fuel : Nat} {s0 : β} {kk : β → Option ω} {N1 : β → Cl} (hp : PassesOwn (model X.prog X.w) X.A X.env X.xe) (hw : Wk ρ (N s0)) (hc : ∀ s k, cb s = some k → XT X c (N s) (N1 s) k) (hb : ∀ s, XG X body (N1 s) (f s) (oS N)) (h : ∀ s, XG X rest (N1 s) (kk s) Φ) :
    XG X (.While c body [] pos :: rest) ρ ((whileO cb f fuel s0).bind kk) Φ :=
  xg_bind fun s1 h1 o ho E σ H D st q => wS.of (pss_cons (ps_while hp ptS pssS) pssS) (by
    refine ⟨fun n σ H => ∃ s, whileO cb f n s = some s1 ∧ ST E (N s) σ H, ⟨fuel, s0, h1, st.wk hw⟩, ?_⟩
    rintro n σ H ⟨s, hs, st⟩
    cases n with
    | zero => cases hs
    | succ n =>
      have hs : ((cb s).bind fun b => if b = true then (f s).bind (whileO cb f n) else some s) = some s1 := hs
      cases hk : cb s with
      | none => rw [hk] at hs; cases hs
      | some k =>
        rw [hk] at hs
        refine hc s k hk E [] [] σ H rfl st _ fun H1 st1 => ?_
        cases k with
        | false =>
          have hs : some s = some s1 := hs
          cases hs
          exact h _ o ho E σ H1 D st1 q
        | true =>
          have hs : (f s).bind (whileO cb f n) = some s1 := hs
          cases hf : f s with
          | none => rw [hf] at hs; cases hs
          | some s2 =>
            rw [hf] at hs
            exact ⟨fun σ' H' => ST E (N s2) σ' H', fun σ' H' st2 => ⟨n, Nat.lt_succ_self _, s2, hs, st2⟩, hb s s2 hf E σ H1 _ st1 fun σ' H' st2 => st2⟩)
end
end Mr

set_option Elab.async false
set_option linter.all false
set_option maxRecDepth 100000
namespace Mr
open PySem PySem.Spec PyProof.Rows L2

/-! ### a def's promise by its mirror m: pre: the arguments' words; post: what holds of them behind (none: nothing is said); ret: the answer's word -/
def SpM {δ γ : Type} (pre : δ → List OA) (m : δ → Option γ) (post : δ → γ → Cl) (ret : δ → γ → OA) : Sp := fun vs H Q _ => ∃ (x : δ) (r : γ) (G : Hp) (F : List Addr), m x = some r ∧ Frm ⟨G, H, F⟩ G H F ∧ Cs G H ((pre x).map some) (vs.map some) F ∧ vs.length = (pre x).length ∧
  ∀ v H', ST ⟨G, H, F⟩ (some (ret x r) :: post x r) (some v :: vs.map some) H' → Q v H'
def pinF : List Bool → List OA → List V → Cl
  | true :: fs, A :: As, v :: vs => some (pin v A) :: pinF fs As vs
  | false :: fs, A :: As, _ :: vs => some A :: pinF fs As vs
  | _, _, _ => []
def pinP : Cl → List V → Cl
  | some A :: As, v :: vs => some (pin v A) :: pinP As vs
  | none :: As, _ :: vs => none :: pinP As vs
  | _, _ => []
theorem Cs.nones {G H : Hp} : ∀ n : Nat, Cs G H (List.replicate n none) (List.replicate n none) []
  | 0 => rfl
  | n + 1 => Cs.nones n
theorem Cs.pinF {G H : Hp} : ∀ {fs : List Bool} {As : List OA} {vs : List V} {F : List Addr}, fs.length = As.length → Cs G H (As.map some) (vs.map some) F → Cs G H (Mr.pinF fs As vs) (vs.map some) F
  | [], [], [], _, _, c => c
  | [], [], _ :: _, _, _, c => c.elim
  | [], _ :: _, _, _, l, _ => by simp at l
  | _ :: _, [], _, _, l, _ => by simp at l
  | _ :: _, _ :: _, [], _, _, c => c.elim
  | true :: fs, A :: As, v :: vs, F, l, c => by
    obtain ⟨w, F1, F2, e1, e2, a, c⟩ := c
    cases e1
    exact ⟨v, F1, F2, rfl, e2, ⟨rfl, a⟩, c.pinF (by simpa using l)⟩
  | false :: fs, A :: As, v :: vs, F, l, c => by
    obtain ⟨w, F1, F2, e1, e2, a, c⟩ := c
    cases e1
    exact ⟨v, F1, F2, rfl, e2, a, c.pinF (by simpa using l)⟩
theorem Cs.noneF {G H : Hp} : ∀ {n : Nat} {σ : L2.St} {F : List Addr}, Cs G H (List.replicate n none) σ F → F = []
  | 0, [], _, c => c
  | 0, _ :: _, _, c => c.elim
  | n + 1, [], _, c => c.elim
  | n + 1, _ :: σ, F, c => Cs.noneF (n := n) (σ := σ) c
theorem Cs.pinP {G H : Hp} {n : Nat} : ∀ {P : Cl} {vs : List V} {σ : L2.St} {F : List Addr}, P.length = vs.length → Cs G H (Mr.pinP P vs ++ List.replicate n none) σ F → Cs G H P (vs.map some) F
  | [], [], σ, F, _, c => Cs.noneF c
  | [], _ :: _, _, _, l, _ => by simp at l
  | _ :: _, [], _, _, l, _ => by simp at l
  | none :: P, _ :: vs, [], _, l, c => c.elim
  | some A :: P, _ :: vs, [], _, l, c => c.elim
  | none :: P, v :: vs, y :: σ, F, l, c => Cs.pinP (P := P) (vs := vs) (σ := σ) (by simpa using l) c
  | some A :: P, v :: vs, y :: σ, F, l, c => by
    obtain ⟨w, F1, F2, e1, e2, ⟨e3, a⟩, c⟩ := c
    subst e3
    exact ⟨w, F1, F2, rfl, e2, a, Cs.pinP (by simpa using l) c⟩
section
variable {P : Program} {w : World} {K : PySem.W.Frag} {mg : Str → Option Value} {base : Heap} {δ γ : Type} {pre : δ → List OA} {m : δ → Option γ} {post : δ → γ → Cl} {ret : δ → γ → OA}
theorem start_cs {G H : Hp} {fs : List Bool} {As : List OA} {vs : List V} {F : List Addr} {N : List Str} (l : fs.length = As.length) (c : Cs G H (As.map some) (vs.map some) F) : Cs G H (pinF fs As vs ++ List.replicate (N.length - vs.length) none) (L2.start N vs) F := by
  have q := (c.pinF l).append (Cs.nones (G := G) (H := H) (N.length - vs.length))
  simpa [L2.start] using q
/-- THE RULE for a def that returns (nothing is raised) -/
theorem fn_ok {x qual : Str} {st : Stmt} {f : Addr} {fd : FuncData} {N ps : List Str} {k : Nat} (fs : List Bool) (F : Fun K x qual st f fd) (S : FnScope N ps (defScope st)) (hf : fs.length = ps.length) (hp : ∀ x, (pre x).length = ps.length) (hq : ∀ x r, (post x r).length = ps.length)
    (hb : ∀ (x : δ) (vs : List V) (cdv : Value) (A : Around) (outer : List Env) (s : Shared) (H : Hp) (E : XK), vs.length = ps.length → Room k (A.deeper (envOfC qual (defScope st) s.heap.objs.size f cdv)) →
      XG (cxOf CX0 P w K mg base N qual (defScope st) f cdv A outer s H E).nox (defBody st) (pinF fs (pre x) vs ++ List.replicate (N.length - vs.length) none) (m x) (oR fun r => some (ret x r) :: (pinP (post x r) vs ++ List.replicate (N.length - vs.length) none))) :
    FnOk P w K mg base CX0 (k + 1) f fd ps (SpM pre m post ret) := by
  refine F.ok S (fun vs H Q E h => ?_) (fun cdv A outer s H vs Q E hr h => ?_)
  · obtain ⟨x, r, G, F, _, _, c, hl, _⟩ := h
    exact hl.trans (hp x)
  · obtain ⟨x, r, G, F, hm, f, c, hl, q⟩ := h
    have hv : vs.length = ps.length := hl.trans (hp x)
    refine ⟨_, pssS, hb x vs cdv A outer s H E hv hr r hm ⟨G, H, F⟩ (L2.start N vs) H _ ⟨G, F, f, start_cs (hf.trans (hp x).symm) c⟩ fun v σ' H' st => q v H' ?_⟩
    obtain ⟨G', F', f', v', F1, F2, e1, e2, a, c'⟩ := st
    exact ⟨G', F', f', v', F1, F2, e1, e2, a, c'.pinP ((hq x r).trans hv.symm)⟩
/-- a def that falls off its end: None -/
theorem fn_okN {x qual : Str} {st : Stmt} {f : Addr} {fd : FuncData} {N ps : List Str} {k : Nat} (fs : List Bool) (F : Fun K x qual st f fd) (S : FnScope N ps (defScope st)) (hf : fs.length = ps.length) (hp : ∀ x, (pre x).length = ps.length) (hq : ∀ x r, (post x r).length = ps.length)
    (hb : ∀ (x : δ) (vs : List V) (cdv : Value) (A : Around) (outer : List Env) (s : Shared) (H : Hp) (E : XK), vs.length = ps.length → Room k (A.deeper (envOfC qual (defScope st) s.heap.objs.size f cdv)) →
      XG (cxOf CX0 P w K mg base N qual (defScope st) f cdv A outer s H E).nox (defBody st) (pinF fs (pre x) vs ++ List.replicate (N.length - vs.length) none) (m x) (oS fun r => (pinP (post x r) vs ++ List.replicate (N.length - vs.length) none))) :
    FnOk P w K mg base CX0 (k + 1) f fd ps (SpM pre m post fun _ _ => aD K .none) := by
  refine F.ok S (fun vs H Q E h => ?_) (fun cdv A outer s H vs Q E hr h => ?_)
  · obtain ⟨x, r, G, F, _, _, c, hl, _⟩ := h
    exact hl.trans (hp x)
  · obtain ⟨x, r, G, F, hm, f, c, hl, q⟩ := h
    have hv : vs.length = ps.length := hl.trans (hp x)
    refine ⟨_, pssS, hb x vs cdv A outer s H E hv hr r hm ⟨G, H, F⟩ (L2.start N vs) H _ ⟨G, F, f, start_cs (hf.trans (hp x).symm) c⟩ fun σ' H' st => q .non H' ?_⟩
    obtain ⟨G', F', f', c'⟩ := st
    exact ST.put f' (c'.pinP ((hq x r).trans hv.symm)) .non
/-- .. that returns early, or falls off its end: None both times -/
theorem fn_okB {x qual : Str} {st : Stmt} {f : Addr} {fd : FuncData} {N ps : List Str} {k : Nat} {m : δ → Option (γ ⊕ γ)} (fs : List Bool) (F : Fun K x qual st f fd) (S : FnScope N ps (defScope st)) (hf : fs.length = ps.length) (hp : ∀ x, (pre x).length = ps.length) (hq : ∀ x r, (post x r).length = ps.length)
    (hb : ∀ (x : δ) (vs : List V) (cdv : Value) (A : Around) (outer : List Env) (s : Shared) (H : Hp) (E : XK), vs.length = ps.length → Room k (A.deeper (envOfC qual (defScope st) s.heap.objs.size f cdv)) →
      XG (cxOf CX0 P w K mg base N qual (defScope st) f cdv A outer s H E).nox (defBody st) (pinF fs (pre x) vs ++ List.replicate (N.length - vs.length) none) (m x) (oB (fun r => some (aD K .none) :: (pinP (post x r) vs ++ List.replicate (N.length - vs.length) none)) fun r => (pinP (post x r) vs ++ List.replicate (N.length - vs.length) none))) :
    FnOk P w K mg base CX0 (k + 1) f fd ps (SpM pre (fun x => (m x).map (Sum.elim id id)) post fun _ _ => aD K .none) := by
  refine F.ok S (fun vs H Q E h => ?_) (fun cdv A outer s H vs Q E hr h => ?_)
  · obtain ⟨x, r, G, F, _, _, c, hl, _⟩ := h
    exact hl.trans (hp x)
  · obtain ⟨x, r, G, F, hm, f, c, hl, q⟩ := h
    have hv : vs.length = ps.length := hl.trans (hp x)
    have hm : (m x).map (Sum.elim id id) = some r := hm
    cases hm2 : m x with
    | none => rw [hm2] at hm; cases hm
    | some o =>
      rw [hm2] at hm
      refine ⟨_, pssS, hb x vs cdv A outer s H E hv hr o hm2 ⟨G, H, F⟩ (L2.start N vs) H _ ⟨G, F, f, start_cs (hf.trans (hp x).symm) c⟩ ?_⟩
      cases o with
      | inl r' =>
        cases hm
        intro v σ' H' st
        refine q v H' ?_
        obtain ⟨G', F', f', v', F1, F2, e1, e2, a, c'⟩ := st
        exact ⟨G', F', f', v', F1, F2, e1, e2, a, c'.pinP ((hq x _).trans hv.symm)⟩
      | inr r' =>
        cases hm
        intro σ' H' st
        refine q .non H' ?_
        obtain ⟨G', F', f', c'⟩ := st
        exact ST.put f' (c'.pinP ((hq x _).trans hv.symm)) .non
end

/-! ### calls of the text's own defs -/
/-- what stands at a module's name: a def that keeps its promise -/
structure Cal (P : Program) (w : World) (K : PySem.W.Frag) (mg : Str → Option Value) (base : Heap) (k : Nat) (x : Str) (sp : Sp) : Prop where
  ex : ∃ (f : Addr) (fd : FuncData) (ps : List Str), FnOk P w K mg base CX0 k f fd ps sp ∧ mg x = some (.ref f) ∧ PySem.W.keepIn K (.ref f) = true ∧ Binds K fd ps []
/-- arguments, some of which are lent from slots: (its place, the slot, its value) -/
def XL (X : Cx) (es : List Expr) (ρ ρ' : Cl) (As : List OA) (ls : List (Nat × Nat × V)) : Prop := ∀ (E : Ent) (T : Cl) (t σ : L2.St) (H : Hp), T.length = t.length → ST E (T ++ ρ) (t ++ σ) H →
  ∀ Q : List V → Hp → Prop, (∀ vs H', vs.length = As.length → (∀ p ∈ ls, vs[p.1]? = some p.2.2 ∧ σ[p.2.1]? = some (some p.2.2)) → ST E (As.map some ++ (T ++ ρ')) (vs.map some ++ (t ++ σ)) H' → Q vs H') → wA X es σ H Q
/-- what is lent comes back -/
def backs (P : Cl) : List (Nat × Nat × V) → Cl → Cl
  | [], ρ => ρ
  | (j, i, v) :: ls, ρ => match P[j]? with
    | some (some A) => (backs P ls ρ).set i (some (pin v A))
    | _ => backs P ls ρ
section
variable {X : Cx} {ρ ρ1 ρ2 ρ3 : Cl} {a b c e : Expr} {es : List Expr} {pos p : Pos} {A B : OA} {As : List OA} {ls : List (Nat × Nat × V)} {δ γ : Type} {pre : δ → List OA} {m : δ → Option γ} {post : δ → γ → Cl} {ret : δ → γ → OA}
theorem xl_of (h : XA X es ρ ρ1 As) : XL X es ρ ρ1 As [] := fun E T t σ H l st Q k => h E T t σ H l st Q fun vs H' hl st' => k vs H' hl (fun _ hp => by simp at hp) st'
theorem xl_lend (j i : Nat) {v0 : V} (h : XL X es ρ ρ1 As ls) (hj : As[j]? = some (aV v0)) (hi : ρ1[i]? = some (some (pin v0 A))) : XL X es ρ (ρ1.set i none) (As.set j A) ((j, i, v0) :: ls) := fun E T t σ H l st Q k => h E T t σ H l st Q fun vs H' hl hls st' => by
  obtain ⟨G, F, f, c⟩ := st'
  have lj : j < As.length := lt_of_get hj
  -- the value
  obtain ⟨v, F1, F2, e1, e2, ⟨e3, e4⟩, c1⟩ := c.split (i := j) (A := aV v0) (by rw [List.getElem?_append_left (by simpa using lj), List.getElem?_map, hj]; rfl)
  subst e3 e4
  have hv : vs[j]? = some v := by
    rw [List.getElem?_append_left (by simp [hl, lj]), List.getElem?_map] at e1
    cases q : vs[j]? with
    | none => rw [q] at e1; cases e1
    | some u => rw [q] at e1; cases e1; rfl
  rw [List.set_append_left _ _ (by simpa using lj)] at c1
  -- the slot
  have c2 : Cs G H' (((As.map some).set j none ++ T) ++ ρ1) ((vs.map some ++ t) ++ σ) F2 := by simpa using c1
  obtain ⟨u, F3, F4, e5, e6, ⟨e7, q⟩, c3⟩ := c2.slot (by simp [l, hl]) hi
  subst e7
  have c4 : Cs G H' ((As.map some ++ (T ++ ρ1.set i none)).set j none) (vs.map some ++ (t ++ σ)) F4 := by
    rw [List.set_append_left _ _ (by simpa using lj)]
    simpa using c3
  obtain ⟨F5, e8, c5⟩ := c4.join (by simp; omega) q
  have e9 : (vs.map some ++ (t ++ σ)).set j (some u) = vs.map some ++ (t ++ σ) := set_get (by rw [List.getElem?_append_left (by simp [hl, lj]), List.getElem?_map, hv]; rfl)
  rw [List.set_append_left _ _ (by simpa using lj), e9] at c5
  refine k vs H' (by simp [hl]) (fun p hp => ?_) ⟨G, F5, f.perm ?_, by simpa [List.map_set] using c5⟩
  · rcases List.mem_cons.mp hp with hp | hp
    · subst hp; exact ⟨hv, e5⟩
    · exact hls p hp
  · exact (e2.trans (by simpa using e6)).trans e8.symm
theorem Frm.sub {E : Ent} {G H : Hp} {F F1 : List Addr} (h : Frm E G H F) (n : F1.Nodup) (p : ∀ b ∈ F1, b ∈ F) : Frm E G H F1 :=
  ⟨h.gg, h.gh, n, fun b hb => h.dis b (p b hb), fun b hb => h.live b (p b hb), h.keep, fun b hb => h.fp b (p b hb), h.gn⟩
/-- the lent things go back, from the arguments' cells -/
theorem cs_backs {G H : Hp} {T : Cl} {t σ : L2.St} {vs : List V} (l : T.length = t.length) : ∀ (ls : List (Nat × Nat × V)) (P ρ : Cl) (F : List Addr), P.length = vs.length → (ls.map (·.1)).Nodup → (∀ p ∈ ls, vs[p.1]? = some p.2.2 ∧ σ[p.2.1]? = some (some p.2.2) ∧ ρ[p.2.1]? = some none) → (ls.map (·.2.1)).Nodup →
    Cs G H (P ++ (T ++ ρ)) (vs.map some ++ (t ++ σ)) F → F.Nodup → ∃ F1, F1.Nodup ∧ (∀ b ∈ F1, b ∈ F) ∧ Cs G H (T ++ backs P ls ρ) (t ++ σ) F1
  | [], P, ρ, F, hl, _, _, _, c, nF => by
    obtain ⟨F1, F2, e1, c1, c2⟩ := c.unappend (by simp [hl])
    subst e1
    exact ⟨F2, (List.nodup_append.mp nF).2.1, fun b hb => List.mem_append_right _ hb, c2⟩
  | (j, i, v) :: ls, P, ρ, F, hl, nd, hp, nd2, c, nF => by
    obtain ⟨h1, h2, h4⟩ := hp (j, i, v) (by simp)
    have nd1 := (List.nodup_cons.mp nd)
    have nd3 := (List.nodup_cons.mp nd2)
    have hp1 : ∀ p ∈ ls, vs[p.1]? = some p.2.2 ∧ σ[p.2.1]? = some (some p.2.2) ∧ ρ[p.2.1]? = some none := fun p h => hp p (List.mem_cons_of_mem _ h)
    have lj : j < P.length := by rw [hl]; exact lt_of_get h1
    cases hP : P[j]? with
    | none => rw [List.getElem?_eq_none_iff] at hP; omega
    | some o =>
      cases o with
      | none =>
        obtain ⟨F1, a, b, c1⟩ := cs_backs l ls P ρ F hl nd1.2 hp1 nd3.2 c nF
        refine ⟨F1, a, b, ?_⟩
        unfold backs
        rw [hP]
        exact c1
      | some A =>
        obtain ⟨w, F1, F2, e1, e2, q, c1⟩ := c.split (i := j) (A := A) (by rw [List.getElem?_append_left lj, hP])
        rw [List.set_append_left _ _ lj] at c1
        have ev : w = v := by
          rw [List.getElem?_append_left (by simp; omega), List.getElem?_map, h1] at e1
          cases e1; rfl
        subst ev
        have nF2 := (e2.nodup_iff).mp nF
        obtain ⟨m1, m2, m3⟩ := List.nodup_append.mp nF2
        obtain ⟨F3, a, b, c2⟩ := cs_backs l ls (P.set j none) ρ F2 (by simpa using hl) nd1.2 hp1 nd3.2 c1 m2
        have eb : backs (P.set j none) ls ρ = backs P ls ρ := by
          have key : ∀ l2 : List (Nat × Nat × V), (∀ p ∈ l2, p.1 ≠ j) → backs (P.set j none) l2 ρ = backs P l2 ρ := fun l2 => by
            induction l2 with
            | nil => intro _; rfl
            | cons p l2 ih =>
              intro hj
              obtain ⟨j2, i2, v2⟩ := p
              have n : j2 ≠ j := hj (j2, i2, v2) (by simp)
              unfold backs
              rw [List.getElem?_set_ne (fun z => n z.symm), ih fun p hp => hj p (List.mem_cons_of_mem _ hp)]
          exact key ls fun p hp z => nd1.1 (List.mem_map.mpr ⟨p, hp, z⟩)
        rw [eb] at c2
        have fr : ∀ l2 : List (Nat × Nat × V), (∀ p ∈ l2, p.2.1 ≠ i) → (backs P l2 ρ)[i]? = some none := fun l2 => by
          induction l2 with
          | nil => intro _; exact h4
          | cons p l2 ih =>
            intro hi
            obtain ⟨j2, i2, v2⟩ := p
            have n : i2 ≠ i := hi (j2, i2, v2) (by simp)
            have q := ih fun p hp => hi p (List.mem_cons_of_mem _ hp)
            unfold backs
            split
            · rw [List.getElem?_set_ne n]; exact q
            · exact q
        have g1 := fr ls fun p hp z => nd3.1 (List.mem_map.mpr ⟨p, hp, z⟩)
        have c3 : Cs G H (T ++ (backs P ls ρ).set i none) (t ++ σ) F3 := by rw [set_get g1]; exact c2
        obtain ⟨F4, e4, c4⟩ := c3.back l (lt_of_get g1) h2 (A := pin w A) (F1 := F1) ⟨rfl, q⟩
        refine ⟨F4, (e4.nodup_iff).mpr (List.nodup_append.mpr ⟨m1, a, fun x hx y hy => m3 x hx y (b y hy)⟩), fun x hx => ?_, ?_⟩
        · refine e2.mem_iff.mpr (List.mem_append.mpr ?_)
          rcases List.mem_append.mp (e4.mem_iff.mp hx) with z | z
          · exact .inl z
          · exact .inr (b x z)
        · unfold backs
          rw [hP]
          exact c4
/-- f(a, ..) -/
theorem xe_call {k : Nat} {x : Str} {xx : δ} {r : γ} {ρo : Cl} (C : Cal X.prog X.w X.K X.mg X.base k x (SpM pre m post ret)) (hr : Room k X.A) (hm : m xx = some r) (ha : XL X (e :: es) ρ ρ1 (pre xx) ls)
    (hP : (post xx r).length = (pre xx).length) (n1 : (ls.map (·.1)).Nodup) (n2 : (ls.map (·.2.1)).Nodup) (hls : ∀ p ∈ ls, ρ1[p.2.1]? = some none) (hA : ret xx r = A) (ho : backs (post xx r) ls ρ1 = ρo)
    (hg : Gl X x := by rfl) (hdb : (x == ("__debug__" : Str)) = false := by decide) (he : starEach (e :: es) X.env = (false, eval e X.env) :: starEach es X.env := by rfl) (hpl : (backTo pos (starEach es X.env)).any (·.1) = false := by rfl) :
    XE X (.Call (.Name x p) (e :: es) [] pos) ρ ρo A := fun E T t σ H l st Q kk => by
  subst hA ho
  obtain ⟨f, fd, ps, F, h1, h2, h3⟩ := C.ex
  refine wE.of (pe_call F hr hg h1 h2 h3 .nil pass0 paS hdb he hpl) (ha E T t σ H l st _ fun vs H' hl hv st' => ?_)
  obtain ⟨G, F, f, c⟩ := st'
  obtain ⟨F1, F2, e1, c1, c2⟩ := c.unappend (by simp [hl])
  subst e1
  rw [List.append_nil]
  refine ⟨xx, r, G, F1, hm, (f.less (List.sublist_append_left _ _)).start, c1, hl, fun v H2 st2 => kk v H2 ?_⟩
  obtain ⟨G2, F3, f3, w, F4, F5, e2, e3, q, c3⟩ := st2
  cases e2
  subst e3
  obtain ⟨f4, keep⟩ := f.step (Fa := F1) (Fr := F2) (.refl _) f3
  have c4 : Cs G2 H2 (T ++ ρ1) (t ++ σ) F2 := c2.mono f3.gg f3.gh keep
  have c5 := c3.append c4
  have n5 : (F4 ++ (F5 ++ F2)).Nodup := by rw [← List.append_assoc]; exact f4.nd
  obtain ⟨m1, m2, m3⟩ := List.nodup_append.mp n5
  obtain ⟨F6, a, b, c6⟩ := cs_backs l ls (post xx r) ρ1 _ (hP.trans hl.symm) n1 (fun p hp => ⟨(hv p hp).1, (hv p hp).2, hls p hp⟩) n2 c5 m2
  exact ⟨G2, F4 ++ F6, f4.sub (List.nodup_append.mpr ⟨m1, a, fun x hx y hy => m3 x hx y (b y hy)⟩) (fun x hx => by
    rw [List.append_assoc]
    rcases List.mem_append.mp hx with z | z
    · exact List.mem_append_left _ z
    · exact List.mem_append_right _ (b x z)), v, F4, F6, rfl, rfl, q, c6⟩
end

/-! ### calls of built-ins -/
section
variable {X : Cx} {ρ ρ1 ρ2 ρ3 : Cl} {a b c e : Expr} {es : List Expr} {pos p : Pos} {A B : OA} {As : List OA} {d : PyData} {ds : List PyData}
theorem xe_callB {id : String} {x : Str} {r : List V → Hp → VK → Prop} (hc : CallR X (.builtin id) r) (ha : XA X (e :: es) ρ ρ1 As)
    (hr : ∀ E T t σ vs H Q, T.length = t.length → vs.length = As.length → ST E (As.map some ++ (T ++ ρ1)) (vs.map some ++ (t ++ σ)) H → (∀ v H', ST E (some B :: (T ++ ρ1)) (some v :: (t ++ σ)) H' → Q v H') → r vs H Q)
    (hm : X.mg x = none) (hv : bootBuiltins x = some (.builtin id)) (hg : Gl X x := by rfl) (hn : x ≠ "__name__" := by decide) (hdb : (x == ("__debug__" : Str)) = false := by decide)
    (he : starEach (e :: es) X.env = (false, eval e X.env) :: starEach es X.env := by rfl) (hpl : (backTo pos (starEach es X.env)).any (·.1) = false := by rfl) : XE X (.Call (.Name x p) (e :: es) [] pos) ρ ρ1 B := fun E T t σ H l st Q k =>
  wE.of (pe_callB hc hg hm hv paS hn hdb he hpl) (ha E T t σ H l st _ fun vs H' hl st' => hr E T t σ vs H' Q l hl st' k)
theorem xe_callTy {id : String} {x : Str} {r : List V → Hp → VK → Prop} (hc : CallR X (.type id) r) (ha : XA X (e :: es) ρ ρ1 As)
    (hr : ∀ E T t σ vs H Q, T.length = t.length → vs.length = As.length → ST E (As.map some ++ (T ++ ρ1)) (vs.map some ++ (t ++ σ)) H → (∀ v H', ST E (some B :: (T ++ ρ1)) (some v :: (t ++ σ)) H' → Q v H') → r vs H Q)
    (hm : X.mg x = none) (hv : bootBuiltins x = some (.type id)) (hg : Gl X x := by rfl) (hn : x ≠ "__name__" := by decide) (hdb : (x == ("__debug__" : Str)) = false := by decide)
    (he : starEach (e :: es) X.env = (false, eval e X.env) :: starEach es X.env := by rfl) (hpl : (backTo pos (starEach es X.env)).any (·.1) = false := by rfl) : XE X (.Call (.Name x p) (e :: es) [] pos) ρ ρ1 B := fun E T t σ H l st Q k =>
  wE.of (pe_callTy hc hg hm hv paS hn hdb he hpl) (ha E T t σ H l st _ fun vs H' hl st' => hr E T t σ vs H' Q l hl st' k)
theorem vs1 {vs : List V} (h : vs.length = 1) : ∃ v, vs = [v] := by
  match vs, h with
  | [v], _ => exact ⟨v, rfl⟩
theorem vs2 {vs : List V} (h : vs.length = 2) : ∃ v w, vs = [v, w] := by
  match vs, h with
  | [v, w], _ => exact ⟨v, w, rfl⟩
theorem xe_len {n : Nat} (ha : XE X a ρ ρ1 A) (r : Rsq X.K ρ1 A n) (hm : X.mg "len" = none) (hg : Gl X "len" := by rfl) (hs : starEach [a] X.env = [(false, eval a X.env)] := by rfl) (hpl : (backTo pos (starEach [] X.env)).any (·.1) = false := by rfl) : XE X (.Call (.Name "len" p) [a] [] pos) ρ ρ1 (aD X.K (.int n)) :=
  xe_callB call_len_seq (xa_cons ha xa_nil hs) (fun E T t σ vs H Q l hl st k => by
    obtain ⟨v, rfl⟩ := vs1 hl
    obtain ⟨G, F, Fv, f, cs, q⟩ := ST.one st
    obtain ⟨p, xs, e1, e2, e3⟩ := r l cs f.gh q
    exact ⟨p, xs, by rw [e1], e2, by rw [e3]; exact k _ H (ST.put f cs (.int _))⟩) hm PySem.boot_len hg (by decide) (by decide) hs hpl
theorem xe_int1 {i : Int} (ha : XE X a ρ ρ1 (aD X.K (.int i))) (hm : X.mg "int" = none) (hg : Gl X "int" := by rfl) (hs : starEach [a] X.env = [(false, eval a X.env)] := by rfl) (hpl : (backTo pos (starEach [] X.env)).any (·.1) = false := by rfl) : XE X (.Call (.Name "int" p) [a] [] pos) ρ ρ1 (aD X.K (.int i)) :=
  xe_callTy call_int1 (xa_cons ha xa_nil hs) (fun E T t σ vs H Q l hl st k => by
    obtain ⟨v, rfl⟩ := vs1 hl
    obtain ⟨G, F, f, cs, q⟩ := ST.top st
    cases q
    exact .inl ⟨i, rfl, k _ H (ST.put f cs (.int _))⟩) hm (by decide +kernel) hg (by decide) (by decide) hs hpl
theorem xe_int1b {i : Bool} (ha : XE X a ρ ρ1 (aD X.K (.bool i))) (hm : X.mg "int" = none) (hg : Gl X "int" := by rfl) (hs : starEach [a] X.env = [(false, eval a X.env)] := by rfl) (hpl : (backTo pos (starEach [] X.env)).any (·.1) = false := by rfl) : XE X (.Call (.Name "int" p) [a] [] pos) ρ ρ1 (aD X.K (.int (if i then 1 else 0))) :=
  xe_callTy call_int1 (xa_cons ha xa_nil hs) (fun E T t σ vs H Q l hl st k => by
    obtain ⟨v, rfl⟩ := vs1 hl
    obtain ⟨G, F, f, cs, q⟩ := ST.top st
    cases q
    exact .inr ⟨i, rfl, k _ H (ST.put f cs (.int _))⟩) hm (by decide +kernel) hg (by decide) (by decide) hs hpl
theorem xe_abs {i : Int} (ha : XE X a ρ ρ1 (aD X.K (.int i))) (hm : X.mg "abs" = none) (hg : Gl X "abs" := by rfl) (hs : starEach [a] X.env = [(false, eval a X.env)] := by rfl) (hpl : (backTo pos (starEach [] X.env)).any (·.1) = false := by rfl) : XE X (.Call (.Name "abs" p) [a] [] pos) ρ ρ1 (aD X.K (.int (if i < 0 then -i else i))) :=
  xe_callB call_abs (xa_cons ha xa_nil hs) (fun E T t σ vs H Q l hl st k => by
    obtain ⟨v, rfl⟩ := vs1 hl
    obtain ⟨G, F, f, cs, q⟩ := ST.top st
    cases q
    exact ⟨i, rfl, k _ H (ST.put f cs (.int _))⟩) hm (by decide +kernel) hg (by decide) (by decide) hs hpl
variable {i j : Int}
theorem xe_max2 (hc : X.calm = true) (ha : XE X a ρ ρ1 (aD X.K (.int i))) (hb : XE X b ρ1 ρ2 (aD X.K (.int j))) (hm : X.mg "max" = none) (hg : Gl X "max" := by rfl) (hs : starEach [a, b] X.env = (false, eval a X.env) :: starEach [b] X.env := by rfl) (hs2 : starEach [b] X.env = [(false, eval b X.env)] := by rfl) (hpl : (backTo pos (starEach [b] X.env)).any (·.1) = false := by rfl) :
    XE X (.Call (.Name "max" p) [a, b] [] pos) ρ ρ2 (aD X.K (.int (max i j))) :=
  xe_callB (call_max2 hc) (xa_cons ha (xa_cons hb xa_nil hs2) hs) (fun E T t σ vs H Q l hl st k => by
    obtain ⟨v, w, rfl⟩ := vs2 hl
    obtain ⟨G, F, f, cs, q⟩ := ST.args (ds := [.int i, .int j]) rfl st
    cases q with
    | cons q1 q => cases q with
      | cons q2 q =>
        cases q1
        cases q2
        refine ⟨i, j, rfl, ?_⟩
        have e : (if j > i then j else i) = max i j := by rw [Int.max_def]; split <;> split <;> omega
        rw [e]
        exact k _ H (ST.put f cs (.int _))) hm (by decide +kernel) hg (by decide) (by decide) hs hpl
theorem xe_min2 (hc : X.calm = true) (ha : XE X a ρ ρ1 (aD X.K (.int i))) (hb : XE X b ρ1 ρ2 (aD X.K (.int j))) (hm : X.mg "min" = none) (hg : Gl X "min" := by rfl) (hs : starEach [a, b] X.env = (false, eval a X.env) :: starEach [b] X.env := by rfl) (hs2 : starEach [b] X.env = [(false, eval b X.env)] := by rfl) (hpl : (backTo pos (starEach [b] X.env)).any (·.1) = false := by rfl) :
    XE X (.Call (.Name "min" p) [a, b] [] pos) ρ ρ2 (aD X.K (.int (min i j))) :=
  xe_callB (call_min2 hc) (xa_cons ha (xa_cons hb xa_nil hs2) hs) (fun E T t σ vs H Q l hl st k => by
    obtain ⟨v, w, rfl⟩ := vs2 hl
    obtain ⟨G, F, f, cs, q⟩ := ST.args (ds := [.int i, .int j]) rfl st
    cases q with
    | cons q1 q => cases q with
      | cons q2 q =>
        cases q1
        cases q2
        refine ⟨i, j, rfl, ?_⟩
        have e : (if j < i then j else i) = min i j := by rw [Int.min_def]; split <;> split <;> omega
        rw [e]
        exact k _ H (ST.put f cs (.int _))) hm (by decide +kernel) hg (by decide) (by decide) hs hpl
/-- list(xs): a new list -/
theorem xe_list (ha : XE X a ρ ρ1 A) (r : Rls X.K ρ1 A ds) (hm : X.mg "list" = none) (hg : Gl X "list" := by rfl) (hs : starEach [a] X.env = [(false, eval a X.env)] := by rfl) (hpl : (backTo pos (starEach [] X.env)).any (·.1) = false := by rfl) : XE X (.Call (.Name "list" p) [a] [] pos) ρ ρ1 (aLD X.K ds) :=
  xe_callTy call_list_of (xa_cons ha xa_nil hs) (fun E T t σ vs H Q l hl st k => by
    obtain ⟨v, rfl⟩ := vs1 hl
    obtain ⟨G, F, Fv, f, cs, q⟩ := ST.one st
    obtain ⟨p, xs, e1, e2, e3⟩ := r l cs f.gh q
    exact ⟨p, xs, by rw [e1], .inl e2, fun p hp => k _ _ (ST.newL f cs hp e3)⟩) hm (by decide +kernel) hg (by decide) (by decide) hs hpl
theorem xe_listT (ha : XE X a ρ ρ1 A) (r : Rtu X.K ρ1 A ds) (hm : X.mg "list" = none) (hg : Gl X "list" := by rfl) (hs : starEach [a] X.env = [(false, eval a X.env)] := by rfl) (hpl : (backTo pos (starEach [] X.env)).any (·.1) = false := by rfl) : XE X (.Call (.Name "list" p) [a] [] pos) ρ ρ1 (aLD X.K ds) :=
  xe_callTy call_list_of (xa_cons ha xa_nil hs) (fun E T t σ vs H Q l hl st k => by
    obtain ⟨v, rfl⟩ := vs1 hl
    obtain ⟨G, F, Fv, f, cs, q⟩ := ST.one st
    obtain ⟨p, xs, e1, e2, e3⟩ := r l cs f.gh q
    exact ⟨p, xs, by rw [e1], .inr e2, fun p hp => k _ _ (ST.newL f cs hp e3)⟩) hm (by decide +kernel) hg (by decide) (by decide) hs hpl
theorem ints_eq {K : PySem.W.Frag} {G : Hp} : ∀ {ns : List Int} {vs : List V}, DqAll K G vs (ns.map PyData.int) → vs = ns.map V.int
  | [], _, h => by cases h; rfl
  | n :: ns, _, h => by
    cases h with
    | cons h1 h2 =>
      cases h1
      rw [ints_eq h2]
      rfl
theorem xe_sum {ns : List Int} (hc : X.calm = true) (ha : XE X a ρ ρ1 A) (r : Rls X.K ρ1 A (ns.map PyData.int)) (hm : X.mg "sum" = none) (hg : Gl X "sum" := by rfl) (hs : starEach [a] X.env = [(false, eval a X.env)] := by rfl) (hpl : (backTo pos (starEach [] X.env)).any (·.1) = false := by rfl) : XE X (.Call (.Name "sum" p) [a] [] pos) ρ ρ1 (aD X.K (.int ns.sum)) :=
  xe_callB (cr_sum hc) (xa_cons ha xa_nil hs) (fun E T t σ vs H Q l hl st k => by
    obtain ⟨v, rfl⟩ := vs1 hl
    obtain ⟨G, F, Fv, f, cs, q⟩ := ST.one st
    obtain ⟨p, xs, e1, e2, e3⟩ := r l cs f.gh q
    have e4 := ints_eq e3
    subst e4
    exact ⟨p, ns, by rw [e1], e2, k _ H (ST.put f cs (.int _))⟩) hm (by decide +kernel) hg (by decide) (by decide) hs hpl
end
end Mr

set_option Elab.async false
set_option linter.all false
set_option maxRecDepth 100000
namespace Mr
open PySem PySem.Spec PyProof.Rows L2

/-! ### owned lists that are changed -/
theorem ST.modL {E : Ent} {T ρ : Cl} {t σ : L2.St} {H : Hp} {B : OA} {y v0 : V} {i : Nat} {As : List OA} (l : T.length = t.length) (st : ST E (some B :: (T ++ ρ)) (some y :: (t ++ σ)) H) (hi : ρ[i]? = some (some (pin v0 (aL As)))) :
    ∃ p vs, v0 = .ref p ∧ H p = some (.lst vs) ∧ vs.length = As.length ∧ ∀ (As' : List OA) (vs' : List V),
      (∀ G H F1 F2, Cs G H (As.map some) (vs.map some) F1 → B.P G H y F2 → ∃ F3, (∀ b ∈ F3, b ∈ F1 ++ F2) ∧ ((F1 ++ F2).Nodup → F3.Nodup) ∧ Cs G H (As'.map some) (vs'.map some) F3) →
      ST E (T ++ ρ.set i (some (pin v0 (aL As')))) (t ++ σ) (upd H p (.lst vs')) := by
  obtain ⟨G, F, f, y', Fb, F0, e1, e2, hb, cs⟩ := st
  cases e1
  subst e2
  obtain ⟨v, F1, F2, e3, e4, ⟨e5, p, vs, F', e6, e7, h1, c1⟩, c2⟩ := cs.slot l hi
  subst e5 e6 e7
  refine ⟨p, vs, rfl, h1, by simpa using c1.len.symm, fun As' vs' k => ?_⟩
  have perm : (Fb ++ F0).Perm ((p :: (F' ++ Fb)) ++ F2) := by
    refine (List.Perm.append_left Fb e4).trans ?_
    have q : (Fb ++ (p :: F' ++ F2)).Perm ((p :: F' ++ F2) ++ Fb) := List.perm_append_comm
    refine q.trans ?_
    show (p :: (F' ++ F2 ++ Fb)).Perm (p :: ((F' ++ Fb) ++ F2))
    refine List.Perm.cons p ?_
    rw [List.append_assoc, List.append_assoc]
    exact List.Perm.append_left F' List.perm_append_comm
  have f1 := f.perm perm
  have f2 : Frm ⟨G, H, p :: (F' ++ Fb)⟩ G H (p :: (F' ++ Fb)) := (f1.less (List.sublist_append_left _ _)).start
  have f3 := Frm.write (o := .lst vs') f2
  have nd := f2.nd
  have np : ∀ b ∈ F' ++ Fb, b ≠ p := fun b hb z => by
    subst z
    exact (List.nodup_cons.mp nd).1 hb
  have keep : ∀ b ∈ F' ++ Fb, ∀ o, H b = some o → upd H p (.lst vs') b = some o := fun b hb o q => by rw [upd_ne (np b hb)]; exact q
  obtain ⟨F3, k1, k2, k3⟩ := k G (upd H p (.lst vs')) F' Fb (c1.mono (.refl _) f3.gh fun b hb => keep b (List.mem_append_left _ hb)) (B.mono hb (.refl _) f3.gh fun b hb => keep b (List.mem_append_right _ hb))
  have f4 : Frm ⟨G, H, p :: (F' ++ Fb)⟩ G (upd H p (.lst vs')) (p :: F3) := f3.sub (List.nodup_cons.mpr ⟨fun z => (List.nodup_cons.mp nd).1 (k1 p z), k2 (List.nodup_cons.mp nd).2⟩) fun b hb => by
    rcases List.mem_cons.mp hb with z | z
    · exact z ▸ List.mem_cons_self
    · exact List.mem_cons_of_mem _ (k1 b z)
  obtain ⟨f5, st5⟩ := f.step perm f4
  have c3 : Cs G (upd H p (.lst vs')) (T ++ ρ.set i none) (t ++ σ) F2 := c2.mono (.refl _) f5.gh st5
  obtain ⟨F6, e8, c4⟩ := c3.back l (lt_of_get hi) e3 (A := pin (.ref p) (aL As')) (F1 := p :: F3) ⟨rfl, p, vs', F3, rfl, rfl, upd_same, k3⟩
  exact ⟨G, F6, f5.perm e8.symm, c4⟩
theorem ST.drop2 {E : Ent} {A B : OA} {L : Cl} {C : L2.St} {H : Hp} {y x : Option V} (st : ST E (some B :: some A :: L) (y :: x :: C) H) : ST E (some B :: L) (y :: C) H := by
  obtain ⟨G, F, f, w, F1, F2, e1, e2, q, u, F3, F4, e3, e4, q2, c⟩ := st
  subst e4 e2
  exact ⟨G, F1 ++ F4, f.less (List.Sublist.append_left (List.sublist_append_right _ _) F1), w, F1, F4, e1, rfl, q, c⟩
theorem Cs.ofNil {G H : Hp} {A : OA} {y : V} {F : List Addr} (h : A.P G H y F) : Cs G H [some A] [some y] F := ⟨y, F, [], rfl, by simp, h, rfl⟩
/-- a list at a slot, for a method of lists -/
theorem ST.isL {X : Cx} {E : Ent} {T ρ : Cl} {t σ : L2.St} {H : Hp} {v0 v : V} {i : Nat} {As : List OA} (l : T.length = t.length) (st : ST E (some (aV v0) :: (T ++ ρ)) (some v :: (t ++ σ)) H) (hi : ρ[i]? = some (some (pin v0 (aL As)))) : v = v0 ∧ tyV X.K "list" v H := by
  obtain ⟨G, F, Fv, f, cs, e0, _⟩ := ST.one st
  obtain ⟨w, F1, F2, e3, e4, ⟨e5, p, vs, F', e6, e7, h1, c1⟩, c2⟩ := cs.slot l hi
  subst e0 e5 e6
  exact ⟨rfl, .inl ⟨rfl, vs, .inl (.inl h1)⟩⟩
section
variable {X : Cx} {ρ ρ1 ρ2 ρ3 : Cl} {a b c e o : Expr} {pos p apos cpos : Pos} {A B : OA} {As As0 : List OA} {d : PyData} {ds : List PyData} {v0 : V}
/-- xs.append(e) -/
theorem xe_append (i : Nat) (ho : XE X o ρ ρ (aV v0)) (h0 : ρ[i]? = some (some (pin v0 (aL As0)))) (he : XE X e ρ ρ1 B) (h1 : ρ1[i]? = some (some (pin v0 (aL As)))) (hz : As.length < sizeLine)
    (hbase : attributeBase o "append" X.env (eval o X.env) = eval o X.env := by rfl) (hfew : ((backTo cpos (starEach [e] X.env)).all (fun x => !x.1) && (backToKw cpos (keywordEach [] X.env)).all (fun x => x.1.isSome) && decide ([e].length + ([] : List Keyword).length + (if ([] : List Keyword).isEmpty then 0 else 1) < 30)) = true := by rfl)
    (hline : (apos.endLine == cpos.line) = true := by rfl) (hs : starEach [e] X.env = (false, eval e X.env) :: starEach [] X.env := by rfl) (hplain : (backTo cpos (starEach [] X.env)).any (·.1) = false := by rfl) :
    XE X (.Call (.Attribute o "append" apos) [e] [] cpos) ρ (ρ1.set i (some (pin v0 (aL (As ++ [B]))))) (aD X.K .none) := fun E T t σ H l st Q k =>
  wE.of (pe_bm PySem.F.plainAttrs_list PySem.F.slot_list_append PySem.F.type_list_append mt_append peS (pa_cons peS pa_nil hs) hbase hfew hline hs hplain) (ho E T t σ H l st _ fun x H1 st1 => by
    obtain ⟨e0, ty⟩ := ST.isL (X := X) l st1 h0
    subst e0
    refine ⟨ty, he E (_ :: T) (_ :: t) σ H1 (by simp [l]) st1 _ fun y H2 st2 => ?_⟩
    have st3 : ST E (some B :: (T ++ ρ1)) (some y :: (t ++ σ)) H2 := by
      exact ST.drop2 st2
    obtain ⟨p, vs, e1, h2, hl, go⟩ := ST.modL l st3 h1
    refine ⟨p, vs, y, e1, rfl, h2, by rw [hl]; exact hz, k _ _ ?_⟩
    have st4 := go (As ++ [B]) (vs ++ [y]) fun G H F1 F2 c q => ⟨F1 ++ F2, fun b hb => hb, fun n => n, by simpa using c.append (Cs.ofNil q)⟩
    obtain ⟨G, F, f, c⟩ := st4
    exact ST.put f c .non)
/-- of data -/
theorem xe_appendD {α : Type} {cv : α → PyData} {xs : List α} {x : α} (i : Nat) (ho : XE X o ρ ρ (aV v0)) (h0 : ρ[i]? = some (some (pin v0 (aL As0)))) (he : XE X e ρ ρ1 (aD X.K (cv x))) (h1 : ρ1[i]? = some (some (pin v0 (aLD X.K (xs.map cv))))) (hz : xs.length < sizeLine)
    (hbase : attributeBase o "append" X.env (eval o X.env) = eval o X.env := by rfl) (hfew : ((backTo cpos (starEach [e] X.env)).all (fun x => !x.1) && (backToKw cpos (keywordEach [] X.env)).all (fun x => x.1.isSome) && decide ([e].length + ([] : List Keyword).length + (if ([] : List Keyword).isEmpty then 0 else 1) < 30)) = true := by rfl)
    (hline : (apos.endLine == cpos.line) = true := by rfl) (hs : starEach [e] X.env = (false, eval e X.env) :: starEach [] X.env := by rfl) (hplain : (backTo cpos (starEach [] X.env)).any (·.1) = false := by rfl) :
    XE X (.Call (.Attribute o "append" apos) [e] [] cpos) ρ (ρ1.set i (some (pin v0 (aLD X.K ((xs ++ [x]).map cv))))) (aD X.K .none) := by
  have q := xe_append (apos := apos) (cpos := cpos) i ho h0 he h1 (by simpa using hz) hbase hfew hline hs hplain
  have e : (xs.map cv).map (aD X.K) ++ [aD X.K (cv x)] = ((xs ++ [x]).map cv).map (aD X.K) := by simp
  rwa [e] at q
theorem Cs.getP {G H : Hp} {A : OA} : ∀ {As : List OA} {vs : List V} {F : List Addr} {j : Nat}, Cs G H (As.map some) (vs.map some) F → As[j]? = some A → ∃ v F1 F2, vs[j]? = some v ∧ F.Perm (F1 ++ F2) ∧ A.P G H v F1 ∧ Cs G H ((As.map some).set j none) (vs.map some) F2 := fun {As vs F j} c h => by
  obtain ⟨v, F1, F2, e1, e2, q, c2⟩ := c.split (i := j) (A := A) (by rw [List.getElem?_map, h]; rfl)
  rw [List.getElem?_map] at e1
  cases hv : vs[j]? with
  | none => rw [hv] at e1; cases e1
  | some w =>
    rw [hv] at e1
    cases e1
    exact ⟨v, F1, F2, rfl, e2, q, c2⟩
theorem cs_set {G H : Hp} {As : List OA} {vs : List V} {y : V} {j : Nat} {F1 F2 : List Addr} (hj : j < As.length) (c : Cs G H (As.map some) (vs.map some) F1) (q : B.P G H y F2) : ∃ F3, (∀ b ∈ F3, b ∈ F1 ++ F2) ∧ ((F1 ++ F2).Nodup → F3.Nodup) ∧ Cs G H ((As.set j B).map some) ((vs.set j y).map some) F3 := by
  obtain ⟨F3, s, c1⟩ := c.forget (i := j) (x := none)
  obtain ⟨F4, p, c2⟩ := c1.join (by simpa using hj) q
  rw [set_set] at c2
  refine ⟨F4, fun b hb => ?_, fun n => ?_, by simpa [List.map_set] using c2⟩
  · rcases List.mem_append.mp (p.mem_iff.mp hb) with z | z
    · exact List.mem_append_right _ z
    · exact List.mem_append_left _ (s.subset z)
  · refine (p.nodup_iff).mpr ((List.perm_append_comm.nodup_iff).mp (n.sublist (List.Sublist.append_right s F2)))
/-- xs[n] = .. -/
theorem xp_setL (i : Nat) {j : Nat} {n : Int} (ho : XE X o ρ ρ (aV v0)) (hb : XE X b ρ ρ1 (aD X.K (.int n))) (h1 : ρ1[i]? = some (some (pin v0 (aL As)))) (hn : ixN As.length n = some j)
    (ha : ∀ v, assign (.Subscript o b pos) X.env v = (do
      let ov ← holding [v] (eval o X.env)
      let iv ← holding [v, ov] (eval b X.env)
      standAt pos
      holding [v, ov, iv] (setItem ov iv v)
      release [v, ov, iv] []) := by intro _; rfl) : XP X (.Subscript o b pos) B ρ (ρ1.set i (some (pin v0 (aL (As.set j B))))) := fun E T t σ H v l st Q k =>
  wG.of (pg_sub peS peS set_list ha) (ho E (_ :: T) (_ :: t) σ H (by simp [l]) st _ fun x H1 st1 => by
    refine hb E (_ :: _ :: T) (_ :: _ :: t) σ H1 (by simp [l]) st1 _ fun y H2 st2 => ?_
    obtain ⟨G, F, f, c, q1⟩ := ST.top st2
    cases q1
    obtain ⟨u, F1, F2, e1, e2, ⟨e3, e4⟩, c⟩ := c
    cases e1
    subst e4 e2 e3
    obtain ⟨p, vs, e5, h2, hl, go⟩ := ST.modL l ⟨G, _, f, c⟩ h1
    have hj : j < As.length := by
      unfold ixN at hn
      split at hn
      · split at hn
        · cases hn; omega
        · cases hn
      · split at hn
        · cases hn; omega
        · cases hn
    exact ⟨p, vs, n, j, e5, rfl, h2, by rw [hl]; exact hn, k _ _ (go _ _ fun G H F1 F2 c q => cs_set hj c q)⟩)
/-- xs[n] op= e: the item and e are ints -/
theorem get_list : PGet X (rIxL X.K) := by
  intro pins s σ H x y v u Q I rx ry h
  obtain ⟨p, xs, i, z, rfl, rfl, hq, he, q⟩ := h
  cases rx
  obtain ⟨t, rfl⟩ := ry
  obtain ⟨its, r, pl, hz⟩ := I.list hq
  obtain ⟨j, h1, h2, h3, h4, h5⟩ := atI_get he
  obtain ⟨w, ew, rw'⟩ := r.get h2
  have hl := r.length
  have hn := line63
  have fin : EP X pins σ Q w s := ⟨z, H, I, rw', q⟩
  by_cases h0 : 0 ≤ i
  · have hj : i.toNat = j := by
      rw [seqIndex_of h0 h5] at h1
      exact Option.some.inj h1
    exact wpAny_mono (wpAny_getItem_list (Q := fun r s' => r = w ∧ s' = s) pl.isList h0 (by omega) (by rw [hj]; simpa using ew) ⟨rfl, rfl⟩) (fun r s' ⟨e1, e2⟩ => by subst e1 e2; exact fin) fun _ _ h => h
  · have hj : (i + (its.toArray.size : Int)).toNat = j := by
      rw [seqIndex_neg (by omega) h4] at h1
      rw [List.size_toArray, ← hl]
      exact Option.some.inj h1
    exact wpAny_mono (wpAny_getItem_list_neg (Q := fun r s' => r = w ∧ s' = s) pl.isList (by omega) (by rw [List.size_toArray] <;> omega) (by omega) (by rw [hj]; simpa using ew) ⟨rfl, rfl⟩) (fun r s' ⟨e1, e2⟩ => by subst e1 e2; exact fin) fun _ _ h => h
theorem xg_augL {ω : Type} {rest : List Stmt} {m : Option ω} {Φ : ω → Ent → Ends → Prop} {op : Operator} {g : Int → Int → Int} {n x k : Int} {tpos : Pos} (i : Nat) {j : Nat} (hop : PIp X op (ipI g)) (ho : XE X o ρ ρ (aV v0)) (hb : XE X b ρ ρ (aD X.K (.int n))) (h1 : ρ[i]? = some (some (pin v0 (aL As)))) (hn : ixN As.length n = some j) (hx : As[j]? = some (aD X.K (.int x)))
    (he : XE X e ρ ρ1 (aD X.K (.int k))) (h2 : ρ1[i]? = some (some (pin v0 (aL As)))) (h : XG X rest (ρ1.set i (some (pin v0 (aL (As.set j (aD X.K (.int (g x k)))))))) m Φ)
    (ha : ∀ ov iv new, augStore b ov iv new = (do holding [new, ov, iv] (setItem ov iv new); release [new, ov, iv] []; pure .next) := by intros; rfl) : XG X (.AugAssign (.Subscript o b tpos) op e pos :: rest) ρ m Φ := fun r hr E σ H D st q =>
  wS.of (pss_cons (ps_augS peS peS get_list peS hop set_list ha) pssS) (ho E [] [] σ H rfl st _ fun v H1 st1 => hb E [_] [_] σ H1 rfl st1 _ fun w H2 st2 => by
    obtain ⟨G, F, f, c, q1⟩ := ST.top st2
    cases q1
    have st3 : ST E ρ σ H2 := ST.pop (A := aV v0) (x := some v) ⟨G, F, f, c⟩
    have ev : v = v0 := by
      obtain ⟨u, F1, F2, e1, e2, ⟨e3, e4⟩, c⟩ := c
      cases e1
      exact e3
    subst ev
    have st30 := st3
    obtain ⟨G, F, f, c⟩ := st30
    obtain ⟨v, F3, F4, e5, e6, ⟨e7, p, vs, F5, e8, e9, h3, c1⟩, c2⟩ := Cs.slot (T := []) (t := []) rfl c h1
    subst e7 e8
    obtain ⟨z, hz, hq⟩ := c1.getD hx
    cases hq
    have hl : vs.length = As.length := by simpa using c1.len.symm
    refine ⟨p, vs, n, .int x, rfl, rfl, .inl (.inl h3), by unfold atI; rw [hl, hn]; exact hz, he E [] [] σ H2 rfl st3 _ fun y H3 st4 => ?_⟩
    obtain ⟨G, F, f, c, q2⟩ := ST.top st4
    cases q2
    refine ⟨x, k, rfl, rfl, ?_⟩
    obtain ⟨p', vs', e10, h4, hl', go⟩ := ST.modL (T := []) (t := []) rfl (ST.put (K := X.K) (v := .int (g x k)) f c (.int _)) h2
    cases e10
    have hj : j < As.length := lt_of_get hx
    exact ⟨p, vs', n, j, rfl, rfl, h4, by rw [hl']; exact hn, h r hr E σ _ D (go _ _ fun G H F1 F2 c q => cs_set hj c q) q⟩)

/-! ### isinstance -/
def Rty (K : PySem.W.Frag) (ρ : Cl) (A : OA) (ty : String) : Prop := ∀ {G H : Hp} {T : Cl} {t σ : L2.St} {F Fv : List Addr} {v : V}, T.length = t.length → Cs G H (T ++ ρ) (t ++ σ) F → Ex G H → A.P G H v Fv → TyX K H v (.type ty)
def tyN : PyData → String
  | .none => "NoneType"
  | .bool _ => "bool"
  | .int _ => "int"
  | .str _ => "str"
  | .list _ => "list"
  | .tuple _ => "tuple"
  | .dict _ => "dict"
theorem sqt_ty {K : PySem.W.Frag} {H : Hp} {a : Addr} {xs : List V} (h : SqT K H a xs) : TyX K H (.ref a) (.type "tuple") := by
  rcases h with (h | ⟨o, h⟩) | ⟨o, its, n, h1, h2, h3, _, _⟩
  · exact .base (.tup h)
  · exact .fTuple h
  · exact .kTuple h1 h2
theorem sql_ty {K : PySem.W.Frag} {H : Hp} {a : Addr} {xs : List V} (h : SqL K H a xs) : TyX K H (.ref a) (.type "list") := by
  rcases h with (h | ⟨o, h⟩) | ⟨o, its, n, h1, h2, h3, _, _⟩
  · exact .base (.lst h)
  · exact .base (.frz h)
  · exact .kList h1 h2
theorem Dq.ty {K : PySem.W.Frag} {G : Hp} {v : V} (h : Dq K G v d) : TyX K G v (.type (tyN d)) := by
  cases h with
  | non => exact .base .non
  | bl b => exact .base (.bl b)
  | int i => exact .base (.int i)
  | str x => exact .base (.str x)
  | lst h1 h2 => exact .base (.lst h1)
  | tup h1 h2 => exact sqt_ty h1
theorem rty_data : Rty X.K ρ (aD X.K d) (tyN d) := fun l c e p => (Dq.mono e _ _ p.1).ty
theorem rty_list {ds : List PyData} (h : Rls X.K ρ A ds) : Rty X.K ρ A "list" := fun l c e p => by
  obtain ⟨a, xs, e1, e2, e3⟩ := h l c e p
  subst e1
  exact sql_ty e2
theorem xe_ty {x ty : String} (hm : X.mg x = none) (hv : bootBuiltins x = some (.type ty)) (hg : Gl X x := by rfl) (hn : (x : Str) ≠ "__name__" := by decide) (hd : ((x : Str) == ("__debug__" : Str)) = false := by decide) : XE X (.Name x pos) ρ ρ (aV (.ty ty)) := fun E T t σ H l st Q k => by
  obtain ⟨G, F, f, cs⟩ := st
  exact wE.of (pe_bltn (v := .ty ty) hg hm hv rfl hn hd) (k (.ty ty) H ⟨G, F, f, .ty ty, [], F, rfl, rfl, ⟨rfl, rfl⟩, cs⟩)
theorem xe_isi {T U : String} {k : Bool} (ha : XE X a ρ ρ1 A) (hb : XE X b ρ1 ρ1 (aV (.ty U))) (r : Rty X.K ρ1 A T) (hk : kitB T U = some k) (hm : X.mg "isinstance" = none) (hg : Gl X "isinstance" := by rfl) (hs : starEach [a, b] X.env = (false, eval a X.env) :: starEach [b] X.env := by rfl) (hs2 : starEach [b] X.env = [(false, eval b X.env)] := by rfl) (hpl : (backTo pos (starEach [b] X.env)).any (·.1) = false := by rfl) :
    XE X (.Call (.Name "isinstance" p) [a, b] [] pos) ρ ρ1 (aD X.K (.bool k)) :=
  xe_callB call_isi (xa_cons ha (xa_cons hb xa_nil hs2) hs) (fun E T t σ vs H Q l hl st kk => by
    obtain ⟨v, w, rfl⟩ := vs2 hl
    obtain ⟨G, F, f, c⟩ := st
    obtain ⟨v', F1, F2, e1, e2, q1, w', F3, F4, e3, e4, ⟨q2, _⟩, c⟩ := c
    cases e1
    cases e3
    subst q2 e2 e4
    exact ⟨v, _, _, _, k, rfl, .ty U, r l c f.gh q1, kit_ty hk, kk _ H (ST.put (f.less ((List.sublist_append_right _ _).trans (List.sublist_append_right _ _))) c (.bl _))⟩) hm (by decide +kernel) hg (by decide) (by decide) hs hpl
end
end Mr

set_option Elab.async false
set_option linter.all false
set_option maxRecDepth 100000
namespace Mr
open PySem PySem.Spec PyProof.Rows L2

/-! ### comprehensions: their mirrors -/
section
variable {α β δ : Type}
def compG (tb : β → α → Option Bool) (fe : β → α → Option (δ × β)) : List α → β → List δ → Option (List δ × β)
  | [], s, acc => some (acc, s)
  | x :: xs, s, acc => (tb s x).bind fun b => if b = true then (fe s x).bind fun o => compG tb fe xs o.2 (acc ++ [o.1]) else compG tb fe xs s acc
def mapL (f : α → Option δ) : List α → Option (List δ)
  | [] => some []
  | x :: xs => (f x).bind fun y => (mapL f xs).bind fun ys => some (y :: ys)
def fltL (t : α → Option Bool) (f : α → Option δ) : List α → Option (List δ)
  | [] => some []
  | x :: xs => (t x).bind fun b => if b = true then (f x).bind fun y => (fltL t f xs).bind fun ys => some (y :: ys) else fltL t f xs
def mapT (f : β → α → Option (δ × β)) : List α → β → Option (List δ × β)
  | [], s => some ([], s)
  | x :: xs, s => (f s x).bind fun o => (mapT f xs o.2).bind fun r => some (o.1 :: r.1, r.2)
/-- as comprehensions: at most a million turns -/
def mapO (f : α → Option δ) (xs : List α) : Option (List δ) := if xs.length ≤ 1000000 then mapL f xs else none
def fltO (t : α → Option Bool) (f : α → Option δ) (xs : List α) : Option (List δ) := if xs.length ≤ 1000000 then fltL t f xs else none
def mapS (f : β → α → Option (δ × β)) (xs : List α) (s : β) : Option (List δ × β) := if xs.length ≤ 1000000 then mapT f xs s else none
theorem compG_map {f : α → Option δ} : ∀ {xs : List α} {ys acc : List δ}, mapL f xs = some ys → compG (fun (_ : Unit) _ => some true) (fun _ x => (f x).map fun y => (y, ())) xs () acc = some (acc ++ ys, ())
  | [], ys, acc, h => by
    cases h
    simp [compG]
  | x :: xs, ys, acc, h => by
    unfold mapL at h
    cases h1 : f x with
    | none => rw [h1] at h; cases h
    | some y =>
      rw [h1] at h
      cases h2 : mapL f xs with
      | none => rw [h2] at h; cases h
      | some zs =>
        rw [h2] at h
        cases h
        have q := compG_map (acc := acc ++ [y]) h2
        unfold compG
        rw [h1]
        show compG _ _ xs () (acc ++ [y]) = _
        rw [q, List.append_assoc]
        rfl
theorem compG_flt {t : α → Option Bool} {f : α → Option δ} : ∀ {xs : List α} {ys acc : List δ}, fltL t f xs = some ys → compG (fun (_ : Unit) => t) (fun _ x => (f x).map fun y => (y, ())) xs () acc = some (acc ++ ys, ())
  | [], ys, acc, h => by
    cases h
    simp [compG]
  | x :: xs, ys, acc, h => by
    unfold fltL at h
    cases h0 : t x with
    | none => rw [h0] at h; cases h
    | some b =>
      rw [h0] at h
      cases b with
      | false =>
        have h : fltL t f xs = some ys := h
        have q := compG_flt (acc := acc) h
        unfold compG
        rw [h0]
        exact q
      | true =>
        have h : ((f x).bind fun y => (fltL t f xs).bind fun ys => some (y :: ys)) = some ys := h
        cases h1 : f x with
        | none => rw [h1] at h; cases h
        | some y =>
          rw [h1] at h
          cases h2 : fltL t f xs with
          | none => rw [h2] at h; cases h
          | some zs =>
            rw [h2] at h
            cases h
            have q := compG_flt (acc := acc ++ [y]) h2
            unfold compG
            rw [h0, h1]
            show compG _ _ xs () (acc ++ [y]) = _
            rw [q, List.append_assoc]
            rfl
theorem compG_mapT {f : β → α → Option (δ × β)} : ∀ {xs : List α} {s s1 : β} {ys acc : List δ}, mapT f xs s = some (ys, s1) → compG (fun _ _ => some true) f xs s acc = some (acc ++ ys, s1)
  | [], s, s1, ys, acc, h => by
    cases h
    simp [compG]
  | x :: xs, s, s1, ys, acc, h => by
    unfold mapT at h
    cases h1 : f s x with
    | none => rw [h1] at h; cases h
    | some o =>
      rw [h1] at h
      have h : ((mapT f xs o.2).bind fun r => some (o.1 :: r.1, r.2)) = some (ys, s1) := h
      cases h2 : mapT f xs o.2 with
      | none => rw [h2] at h; cases h
      | some r =>
        obtain ⟨r1, r2⟩ := r
        rw [h2] at h
        cases h
        have q := compG_mapT (acc := acc ++ [o.1]) h2
        unfold compG
        show ((f s x).bind fun o => compG _ f xs o.2 (acc ++ [o.1])) = _
        rw [h1]
        show compG _ f xs o.2 (acc ++ [o.1]) = _
        rw [q, List.append_assoc]
        rfl
end
theorem Cs.free {G H : Hp} {x : Option V} : ∀ {ρ : Cl} {σ : L2.St} {F : List Addr} {i : Nat}, Cs G H ρ (σ.set i x) F → ρ[i]? = some none → Cs G H ρ σ F
  | [], σ, F, i, c, h => by simp at h
  | none :: ρ, [], F, i, c, h => by cases i <;> exact c.elim
  | some A :: ρ, [], F, i, c, h => by cases i <;> exact c.elim
  | none :: ρ, y :: σ, F, 0, c, h => c
  | some A :: ρ, y :: σ, F, 0, c, h => by simp at h
  | none :: ρ, y :: σ, F, i + 1, c, h => Cs.free (ρ := ρ) (σ := σ) (i := i) c (by simpa using h)
  | some A :: ρ, y :: σ, F, i + 1, c, h => by
    obtain ⟨v, F1, F2, e1, e2, a, c⟩ := c
    exact ⟨v, F1, F2, e1, e2, a, c.free (by simpa using h)⟩
theorem Cs.freeT {G H : Hp} {x : Option V} {T ρ : Cl} {t σ : L2.St} {F : List Addr} {i : Nat} (l : T.length = t.length) (c : Cs G H (T ++ ρ) (t ++ σ.set i x) F) (h : ρ[i]? = some none) : Cs G H (T ++ ρ) (t ++ σ) F := by
  rw [← append_set_right, ← l] at c
  exact c.free (by rw [append_get_right]; exact h)
theorem Cs.forgetT {G H : Hp} {x : Option V} {T ρ : Cl} {t σ : L2.St} {F : List Addr} {i : Nat} (l : T.length = t.length) (c : Cs G H (T ++ ρ) (t ++ σ) F) : ∃ F', F'.Sublist F ∧ Cs G H (T ++ ρ.set i none) (t ++ σ.set i x) F' := by
  obtain ⟨F', s, q⟩ := c.forget (i := T.length + i) (x := x)
  rw [append_set_right, l, append_set_right] at q
  exact ⟨F', s, q⟩
theorem ST.wkT {E : Ent} {T ρ ρ' : Cl} {t σ : L2.St} {H : Hp} (l : T.length = t.length) (h : ST E (T ++ ρ) (t ++ σ) H) (w : Wk ρ ρ') : ST E (T ++ ρ') (t ++ σ) H := by
  obtain ⟨G, F, f, c⟩ := h
  obtain ⟨F1, F2, e, c1, c2⟩ := c.unappend l
  obtain ⟨F3, s, c3⟩ := c2.wk w
  subst e
  exact ⟨G, F1 ++ F3, f.less (List.Sublist.append_left s F1), c1.append c3⟩

/-! ### the rule -/
/-- elements and tests by their mirrors -/
def XEm (X : Cx) {ω : Type} (e : Expr) (ρ : Cl) (m : Option ω) (N : ω → Cl) (B : ω → OA) : Prop := ∀ o, m = some o → XE X e ρ (N o) (B o)
def XTm (X : Cx) (e : Expr) (ρ : Cl) (m : Option Bool) : Prop := ∀ k, m = some k → XT X e ρ ρ k
section
variable {X : Cx} {ρ ρ1 : Cl} {e tg iter elt c : Expr} {pos p : Pos} {ω α β δ : Type} {N : ω → Cl} {B : ω → OA}
theorem xem_bind {κ : Type} {m1 : Option κ} {k : κ → Option ω} (h : ∀ x, m1 = some x → XEm X e ρ (k x) N B) : XEm X e ρ (m1.bind k) N B := fun o ho => by
  cases hm : m1 with
  | none => rw [hm] at ho; cases ho
  | some x => rw [hm] at ho; exact h x hm o ho
theorem xem_lett {κ : Type} {v : κ} {k : κ → Option ω} (h : ∀ x, v = x → XEm X e ρ (k x) N B) : XEm X e ρ (lett v k) N B := h v rfl
theorem xem_some {o : ω} (h : XE X e ρ (N o) (B o)) : XEm X e ρ (some o) N B := fun _ ho => by cases ho; exact h
theorem xtm_bind {κ : Type} {m1 : Option κ} {k : κ → Option Bool} (h : ∀ x, m1 = some x → XTm X e ρ (k x)) : XTm X e ρ (m1.bind k) := fun o ho => by
  cases hm : m1 with
  | none => rw [hm] at ho; cases ho
  | some x => rw [hm] at ho; exact h x hm o ho
theorem xtm_lett {κ : Type} {v : κ} {k : κ → Option Bool} (h : ∀ x, v = x → XTm X e ρ (k x)) : XTm X e ρ (lett v k) := h v rfl
theorem xtm_some {k : Bool} (h : XT X e ρ ρ k) : XTm X e ρ (some k) := fun _ ho => by cases ho; exact h

theorem Wk.refl : ∀ ρ : Cl, Wk ρ ρ
  | [] => trivial
  | none :: l => Wk.refl l
  | some _ :: l => ⟨rfl, Wk.refl l⟩
abbrev blkX (X : Cx) (scope : Scope) (s0 : Shared) (H0 : Hp) (C : Addr) (cl : List (Str × Addr)) (fp : List Addr) : Cx := X.blk s0 H0 scope (compEnvC scope cl C X.env) fp
/-- the loop of a comprehension with one name as its target -/
theorem lc_core1 {Ok : Cl → Prop} {xs : List α} {cv : α → OA} {N : β → Cl} {tb : β → α → Option Bool} {fe : β → α → Option (δ × β)} {s0 : β} {el : δ → OA} {i : Nat} {E E' : Ent} {T : Cl} {t σ : L2.St} {H1 : Hp} {D : Addr} {J : It} {tt : TT} {te : TE} {Qd : Hp → Prop} {r : List δ × β}
    (l : T.length = t.length) (hr : compG tb fe xs s0 [] = some r) (hz : xs.length ≤ 1000000) (hD : H1 D = none) (st : ST E' (T ++ ρ1) (t ++ σ) H1) (gv : Gives J E' Ok xs cv) (hw : Wk (ρ1.set i none) (N s0)) (hok : ∀ s, Ok (N s)) (hN : ∀ s, (N s)[i]? = some none)
    (ht : ∀ x s k, tb s x = some k → ∀ (T : Cl) (t σ : L2.St) (H : Hp), T.length = t.length → ST E' (T ++ (N s).set i (some (cv x))) (t ++ σ) H → ∀ Q : Bool → Hp → Prop, (∀ H', ST E' (T ++ (N s).set i (some (cv x))) (t ++ σ) H' → Q k H') → tt σ H Q)
    (he : ∀ x s y s', fe s x = some (y, s') → ∃ ρ2, Wk (ρ2.set i none) (N s') ∧ ∀ (T : Cl) (t σ : L2.St) (H : Hp), T.length = t.length → ST E' (T ++ (N s).set i (some (cv x))) (t ++ σ) H → ∀ Q : VK, (∀ v H', ST E' (some (el y) :: (T ++ ρ2)) (some v :: (t ++ σ)) H' → Q v H') → te σ H Q)
    (hd : ∀ H', ST E' (some (pin (.ref D) (aL (r.1.map el))) :: (T ++ N r.2)) (some (.ref D) :: (t ++ σ.set i none)) H' → Qd H') :
    ∃ W : Nat → Nat → Hp → Prop, (∃ m, W 0 m (upd H1 D (.lst []))) ∧ ∀ n m H, W n m H →
      (J.stop n H ∧ Qd H) ∨ (J.go n H ∧ ∃ Nx : Hp → Prop, (∀ H', Nx H' → ∃ m', m' < m ∧ W (n + 1) m' H') ∧ ∀ x H', J.yld n H x H' → gName i x (wipe σ [i]) H' fun σ2 H2 => wipe σ2 [i] = wipe σ [i] ∧ tt σ2 H2 fun b H3 =>
        if b = true then te σ2 H3 fun y H4 => ∃ acc, H4 D = some (.lst acc) ∧ acc.length < sizeLine ∧ Nx (upd H4 D (.lst (acc ++ [y]))) else Nx H3) := by
  refine ⟨fun n m H => m = xs.length - n ∧ n ≤ xs.length ∧ ∃ s acc, acc.length ≤ n ∧ compG tb fe (xs.drop n) s acc = some r ∧ ST E' (some (pin (.ref D) (aL (acc.map el))) :: (T ++ N s)) (some (.ref D) :: (t ++ σ.set i none)) H, ⟨xs.length, by simp, Nat.zero_le _, s0, [], Nat.le_refl _, by simpa using hr, ?_⟩, ?_⟩
  · obtain ⟨G, F, f, c⟩ := st
    obtain ⟨f1, keep⟩ := f.step (Fa := []) (Fr := F) (by simp) (Frm.alloc (o := .lst []) f.gh hD)
    have c1 := c.mono (.refl _) f1.gh keep
    obtain ⟨F', s, c2⟩ := c1.forgetT (x := none) (i := i) l
    obtain ⟨F1, F2, e, c3, c4⟩ := c2.unappend l
    obtain ⟨F3, s3, c5⟩ := c4.wk hw
    subst e
    refine ⟨G, [D] ++ (F1 ++ F3), f1.less (List.Sublist.append_left ((List.Sublist.append_left s3 F1).trans s) [D]), .ref D, [D], F1 ++ F3, rfl, rfl, ⟨rfl, D, [], [], rfl, rfl, upd_same, rfl⟩, c3.append c5⟩
  · rintro n m H ⟨rfl, hn, s, acc, hacc, hf, st⟩
    have l' : (some (pin (V.ref D) (aL (acc.map el))) :: T).length = (some (V.ref D) :: t).length := by simp [l]
    by_cases hlt : n < xs.length
    · have ed : xs.drop n = xs[n] :: xs.drop (n + 1) := List.drop_eq_getElem_cons hlt
      rw [ed] at hf
      have hf : ((tb s xs[n]).bind fun b => if b = true then (fe s xs[n]).bind fun o => compG tb fe (xs.drop (n + 1)) o.2 (acc ++ [o.1]) else compG tb fe (xs.drop (n + 1)) s acc) = some r := hf
      refine .inr ⟨gv.go n hlt (_ :: T) (_ :: t) _ _ _ l' (hok s) st, fun H' => ∃ s' acc', acc'.length ≤ n + 1 ∧ compG tb fe (xs.drop (n + 1)) s' acc' = some r ∧ ST E' (some (pin (.ref D) (aL (acc'.map el))) :: (T ++ N s')) (some (.ref D) :: (t ++ σ.set i none)) H',
        fun H' ⟨s', acc', q0, q1, q2⟩ => ⟨xs.length - (n + 1), by omega, rfl, hlt, s', acc', q0, q1, q2⟩, fun v H' y => ?_⟩
      have st1 := gv.yld n xs[n] v H H' (List.getElem?_eq_getElem hlt) (_ :: T) (_ :: t) _ _ l' (hok s) st y
      have st2 := ST.assignT (i := i) l' st1 (lt_of_get (hN s))
      show wipe ((wipe σ [i]).set i (some v)) [i] = wipe σ [i] ∧ _
      have ew : wipe σ [i] = σ.set i none := rfl
      refine ⟨by rw [ew]; show ((σ.set i none).set i (some v)).set i none = σ.set i none; rw [set_set, set_set], ?_⟩
      rw [ew]
      cases hb : tb s xs[n] with
      | none => rw [hb] at hf; cases hf
      | some b =>
        rw [hb] at hf
        refine ht xs[n] s b hb (_ :: T) (_ :: t) _ H' l' st2 _ fun H2 st3 => ?_
        have back : ∀ {s' : β} {acc' : List δ} {ρ2 : Cl} {H' : Hp}, Wk (ρ2.set i none) (N s') → ST E' (some (pin (.ref D) (aL (acc'.map el))) :: (T ++ ρ2)) (some (.ref D) :: (t ++ (σ.set i none).set i (some v))) H' → ST E' (some (pin (.ref D) (aL (acc'.map el))) :: (T ++ N s')) (some (.ref D) :: (t ++ σ.set i none)) H' := fun {s' acc' ρ2 H'} hw st => by
          obtain ⟨G, F, f, c⟩ := st
          obtain ⟨F', s, c2⟩ := Cs.forgetT (T := some (pin (.ref D) (aL (acc'.map el))) :: T) (t := some (.ref D) :: t) (x := none) (i := i) (by simp [l]) c
          rw [set_set, set_set] at c2
          exact ST.wkT (T := some (pin (.ref D) (aL (acc'.map el))) :: T) (t := some (.ref D) :: t) (by simp [l]) ⟨G, F', f.less s, c2⟩ hw
        cases b with
        | false =>
          have hf : compG tb fe (xs.drop (n + 1)) s acc = some r := hf
          refine ⟨s, acc, by omega, hf, ?_⟩
          exact back (by rw [set_set, set_get (hN s)]; exact Wk.refl _) st3
        | true =>
          have hf : ((fe s xs[n]).bind fun o => compG tb fe (xs.drop (n + 1)) o.2 (acc ++ [o.1])) = some r := hf
          cases hfe : fe s xs[n] with
          | none => rw [hfe] at hf; cases hf
          | some o =>
            obtain ⟨y, s'⟩ := o
            rw [hfe] at hf
            have hf : compG tb fe (xs.drop (n + 1)) s' (acc ++ [y]) = some r := hf
            obtain ⟨ρ2, hwk, hel⟩ := he xs[n] s y s' hfe
            refine hel (_ :: T) (_ :: t) _ H2 l' st3 _ fun yv H3 st4 => ?_
            obtain ⟨p, vs, e1, h2, hl, go⟩ := ST.modL (T := []) (t := []) (i := 0) rfl st4 rfl
            cases e1
            have hsz : vs.length < sizeLine := by
              rw [hl, List.length_map]
              exact Nat.lt_of_le_of_lt hacc (Nat.lt_of_lt_of_le hlt (Nat.le_trans hz (by decide)))
            refine ⟨vs, h2, hsz, s', acc ++ [y], by simp; omega, hf, back hwk ?_⟩
            have st5 := go ((acc ++ [y]).map el) (vs ++ [yv]) fun G H F1 F2 c q => ⟨F1 ++ F2, fun b hb => hb, fun n => n, by simpa using c.append (Cs.ofNil q)⟩
            exact st5
    · have e : n = xs.length := by omega
      subst e
      rw [List.drop_length] at hf
      cases hf
      exact .inl ⟨gv.stop (_ :: T) (_ :: t) _ _ _ l' (hok s) st, hd H st⟩
theorem lc_fin {E E' : Ent} {T ρ2 : Cl} {t σ : L2.St} {H : Hp} {D : Addr} {A : OA} {i : Nat} (l : T.length = t.length) (lt : Later E' E) (hi : ρ2[i]? = some none) (st : ST E' (some (pin (.ref D) A) :: (T ++ ρ2)) (some (.ref D) :: (t ++ σ.set i none)) H) : ST E (some A :: (T ++ ρ2)) (some (.ref D) :: (t ++ σ)) H := by
  refine lt _ _ _ ?_
  obtain ⟨G, F, f, v, F1, F2, e1, e2, ⟨_, a⟩, c⟩ := st
  cases e1
  exact ⟨G, F, f, _, F1, F2, rfl, e2, a, c.freeT l hi⟩
theorem mapO_eq {f : α → Option δ} {xs : List α} {ys : List δ} (h : mapO f xs = some ys) : xs.length ≤ 1000000 ∧ mapL f xs = some ys := by
  unfold mapO at h
  split at h
  · exact ⟨by assumption, h⟩
  · cases h
theorem fltO_eq {t : α → Option Bool} {f : α → Option δ} {xs : List α} {ys : List δ} (h : fltO t f xs = some ys) : xs.length ≤ 1000000 ∧ fltL t f xs = some ys := by
  unfold fltO at h
  split at h
  · exact ⟨by assumption, h⟩
  · cases h
theorem mapS_eq {f : β → α → Option (δ × β)} {xs : List α} {s : β} {r : List δ × β} (h : mapS f xs s = some r) : xs.length ≤ 1000000 ∧ mapT f xs s = some r := by
  unfold mapS at h
  split at h
  · exact ⟨by assumption, h⟩
  · cases h
def wEc (X : Cx) (scope : Scope) (e : Expr) : TE := fun σ H Q => ∀ s0 H0 C cl fp, wE (blkX X scope s0 H0 C cl fp) e σ H Q
def wTc (X : Cx) (scope : Scope) (e : Expr) : TT := fun σ H Q => ∀ s0 H0 C cl fp, wT (blkX X scope s0 H0 C cl fp) e σ H Q
variable {scope : Scope} {x : Str}
/-- the comprehension's value and what it leaves: for both of its rules -/
def XC (X : Cx) (x : Str) (p : Pos) (i : Nat) (elt iter : Expr) (ifs : List Expr) (scope : Scope) (ρ ρ' : Cl) (A : OA) : Prop := ∃ (tt : TT) (te : TE), (∀ s0 H0 C cl fp, PTs (blkX X scope s0 H0 C cl fp) ifs tt) ∧ (∀ s0 H0 C cl fp, PE (blkX X scope s0 H0 C cl fp) elt te) ∧
  ∀ (E : Ent) (T : Cl) (t σ : L2.St) (H : Hp), T.length = t.length → ST E (T ++ ρ) (t ++ σ) H → ∀ Q : VK, (∀ v H', ST E (some A :: (T ++ ρ')) (some v :: (t ++ σ)) H' → Q v H') → tLc (wI X (.Name x p) iter) (gName i) tt te [i] σ H Q
theorem xe_lc {i : Nat} {ρ' : Cl} {A : OA} {ifs : List Expr} (h : XC X x p i elt iter ifs scope ρ ρ' A) (hc : X.calm = true) (hN : X.N.Nodup) (ok : BlkOk X.N X.env.scope scope [(x, i)]) (hg : ∀ s0 H0 C cl fp, PG (blkX X scope s0 H0 C cl fp) (.Name x p) (gName i)) (hs : ∀ x, foldedSetIterable iter X.env x = pure x := by intro _; rfl) :
    XE X (.ListComp elt [⟨.Name x p, iter, ifs, 0⟩] scope pos) ρ ρ' A := fun E T t σ H l st Q k => by
  obtain ⟨tt, te, h1, h2, h3⟩ := h
  exact wE.of (pe_lc (own := [(x, i)]) (g := gName i) hc hN piS ok hg h1 h2 hs) (h3 E T t σ H l st Q k)
/-- y = [..] on one line -/
theorem xg_asgLc {i j : Nat} {ρ' : Cl} {A : OA} {ifs : List Expr} {y : Str} {py spos : Pos} {ω : Type} {rest : List Stmt} {m : Option ω} {Φ : ω → Ent → Ends → Prop} (h : XC X x p i elt iter ifs scope ρ ρ' A) (hy : X.N[j]? = some y) (hyl : X.env.scope.names.lookup y = some .local)
    (hsw : swapsWith (.ListComp elt [⟨.Name x p, iter, ifs, 0⟩] scope pos) (some (.Name y py)) spos.line X.env = pure true) (k : XG X rest (ρ'.set j (some A)) m Φ) (hl : j < ρ'.length) (hc : X.calm = true) (hN : X.N.Nodup) (ok : BlkOk X.N X.env.scope scope [(x, i)]) (hg : ∀ s0 H0 C cl fp, PG (blkX X scope s0 H0 C cl fp) (.Name x p) (gName i)) (hs : ∀ x, foldedSetIterable iter X.env x = pure x := by intro _; rfl) :
    XG X (.Assign [.Name y py] (.ListComp elt [⟨.Name x p, iter, ifs, 0⟩] scope pos) spos :: rest) ρ m Φ := fun o ho E σ H D st q => by
  obtain ⟨tt, te, h1, h2, h3⟩ := h
  exact wS.of (pss_cons (ps_setLc (own := [(x, i)]) (g := gName i) hc hN hy hyl hsw piS ok hg h1 h2 hs) pssS) (h3 E [] [] σ H rfl st _ fun v H' st1 => k o ho E _ H' D (ST.assign st1 hl) q)
theorem xg_asgLcP {i j : Nat} {ρ' : Cl} {A : OA} {ifs : List Expr} {y : Str} {py spos : Pos} {ω : Type} {rest : List Stmt} {m : Option ω} {Φ : ω → Ent → Ends → Prop} (h : XC X x p i elt iter ifs scope ρ ρ' A) (hy : X.N[j]? = some y) (hyl : X.env.scope.names.lookup y = some .local)
    (hsw : swapsWith (.ListComp elt [⟨.Name x p, iter, ifs, 0⟩] scope pos) (some (.Name y py)) spos.line X.env = pure true) (k : ∀ v, XG X rest (ρ'.set j (some (pin v A))) m Φ) (hl : j < ρ'.length) (hc : X.calm = true) (hN : X.N.Nodup) (ok : BlkOk X.N X.env.scope scope [(x, i)]) (hg : ∀ s0 H0 C cl fp, PG (blkX X scope s0 H0 C cl fp) (.Name x p) (gName i)) (hs : ∀ x, foldedSetIterable iter X.env x = pure x := by intro _; rfl) :
    XG X (.Assign [.Name y py] (.ListComp elt [⟨.Name x p, iter, ifs, 0⟩] scope pos) spos :: rest) ρ m Φ :=
  xg_asgLc h hy hyl hsw (xg_pin j (List.getElem?_set_self hl) fun v => by rw [set_set]; exact k v) hl hc hN ok hg hs
theorem xc_imp {i : Nat} {ρ' : Cl} {A B : OA} {ifs : List Expr} (h : XC X x p i elt iter ifs scope ρ ρ' A) (e : A = B) : XC X x p i elt iter ifs scope ρ ρ' B := e ▸ h
theorem xc_frz {i : Nat} {ρ' : Cl} {ds : List PyData} {ifs : List Expr} (h : XC X x p i elt iter ifs scope ρ ρ' (aLD X.K ds)) : XC X x p i elt iter ifs scope ρ ρ' (aD X.K (.list ds)) := by
  obtain ⟨tt, te, h1, h2, h3⟩ := h
  refine ⟨tt, te, h1, h2, fun E T t σ H l st Q k => h3 E T t σ H l st Q fun v H' st1 => ?_⟩
  obtain ⟨G, F, f, w, F1, F2, e1, e2, ⟨p, vs, F', e3, e4, h1, c1⟩, cs⟩ := st1
  obtain ⟨q1, q2⟩ := csD c1
  cases e1
  subst e2 e3 e4 q2
  have g : G p = none := f.dis p (by simp)
  obtain ⟨f1, st⟩ := f.step (Fa := [p]) (Fr := F2) (by simp) (Frm.freeze f.gh g h1)
  exact k _ _ ⟨_, _, f1, .ref p, [], F2, rfl, rfl, ⟨.lst upd_same (DqAll.mono (.new g) _ _ q1), rfl⟩, by simpa using cs.mono (.new g) f1.gh st⟩
/-- [elt for x in iter], nothing is changed by it -/
theorem xc_mapO (i : Nat) {Ok : Cl → Prop} {xs : List α} {cv : α → OA} {f : α → Option δ} {el : δ → OA} {ys : List δ} (hm : mapO f xs = some ys) (hx : XI X (.Name x p) iter ρ ρ1 Ok xs cv) (hok : Ok (ρ1.set i none)) (hl : i < ρ1.length)
    (he : ∀ s0 H0 C cl fp x, XEm (blkX X scope s0 H0 C cl fp) elt (ρ1.set i (some (cv x))) (f x) (fun _ => ρ1.set i (some (cv x))) el) :
    XC X x p i elt iter [] scope ρ (ρ1.set i none) (aL (ys.map el)) := by
  refine ⟨tYes, wEc X scope elt, fun _ _ _ _ _ => pts_nil, fun s0 H0 C cl fp => ⟨fun pins s σ H Q I h => h s0 H0 C cl fp pins s I⟩, fun E T t σ H l st Q k => ?_⟩
  obtain ⟨hz, hm1⟩ := mapO_eq hm
  have hfree : (ρ1.set i none)[i]? = some none := List.getElem?_set_self hl
  refine hx E T t σ H l st _ fun J E' H' lt st' gv => ?_
  intro D hD
  exact lc_core1 (te := wEc X scope elt) (tt := tYes) (ρ1 := ρ1) (N := fun _ : Unit => ρ1.set i none) (el := el) (i := i) (E := E) l (compG_map hm1) hz hD st' gv (Wk.refl _) (fun _ => hok) (fun _ => hfree)
    (fun x s k hk T t σ H l st Q q => by cases hk; exact q H st)
    (fun x s y s' hf => by
      cases hfx : f x with
      | none => rw [hfx] at hf; cases hf
      | some y0 =>
        rw [hfx] at hf
        cases hf
        refine ⟨(ρ1.set i none).set i (some (cv x)), by rw [set_set, set_set]; exact Wk.refl _, fun T t σ H l st Q q s0 H0 C cl fp => ?_⟩
        rw [set_set] at st q
        exact he s0 H0 C cl fp x y hfx E' T t σ H l st Q q)
    fun H2 st2 => k _ _ (lc_fin l lt hfree st2)
/-- [elt for x in iter if c] -/
theorem xc_fltO (i : Nat) {Ok : Cl → Prop} {xs : List α} {cv : α → OA} {tb : α → Option Bool} {f : α → Option δ} {el : δ → OA} {ys : List δ} (hm : fltO tb f xs = some ys) (hx : XI X (.Name x p) iter ρ ρ1 Ok xs cv) (hok : Ok (ρ1.set i none)) (hl : i < ρ1.length)
    (ht : ∀ s0 H0 C cl fp x, XTm (blkX X scope s0 H0 C cl fp) c (ρ1.set i (some (cv x))) (tb x))
    (he : ∀ s0 H0 C cl fp x, XEm (blkX X scope s0 H0 C cl fp) elt (ρ1.set i (some (cv x))) (f x) (fun _ => ρ1.set i (some (cv x))) el) :
    XC X x p i elt iter [c] scope ρ (ρ1.set i none) (aL (ys.map el)) := by
  refine ⟨wTc X scope c, wEc X scope elt, fun s0 H0 C cl fp => pts_one ⟨fun pins s σ H Q I h => h s0 H0 C cl fp pins s I⟩, fun s0 H0 C cl fp => ⟨fun pins s σ H Q I h => h s0 H0 C cl fp pins s I⟩, fun E T t σ H l st Q k => ?_⟩
  obtain ⟨hz, hm1⟩ := fltO_eq hm
  have hfree : (ρ1.set i none)[i]? = some none := List.getElem?_set_self hl
  refine hx E T t σ H l st _ fun J E' H' lt st' gv => ?_
  intro D hD
  exact lc_core1 (te := wEc X scope elt) (tt := wTc X scope c) (ρ1 := ρ1) (N := fun _ : Unit => ρ1.set i none) (el := el) (i := i) (E := E) l (compG_flt hm1) hz hD st' gv (Wk.refl _) (fun _ => hok) (fun _ => hfree)
    (fun x s k hk T t σ H l st Q q s0 H0 C cl fp => by
      rw [set_set] at st q
      exact ht s0 H0 C cl fp x k hk E' T t σ H l st Q q)
    (fun x s y s' hf => by
      cases hfx : f x with
      | none => rw [hfx] at hf; cases hf
      | some y0 =>
        rw [hfx] at hf
        cases hf
        refine ⟨(ρ1.set i none).set i (some (cv x)), by rw [set_set, set_set]; exact Wk.refl _, fun T t σ H l st Q q s0 H0 C cl fp => ?_⟩
        rw [set_set] at st q
        exact he s0 H0 C cl fp x y hfx E' T t σ H l st Q q)
    fun H2 st2 => k _ _ (lc_fin l lt hfree st2)
/-- [elt for x in iter], owned things are changed by it: N -/
theorem xc_mapS (i : Nat) {Ok : Cl → Prop} {xs : List α} {cv : α → OA} {f : β → α → Option (δ × β)} {N : β → Cl} {N2 : α → δ × β → Cl} {s0 : β} {el : δ → OA} {r : List δ × β} (hm : mapS f xs s0 = some r) (hx : XI X (.Name x p) iter ρ ρ1 Ok xs cv)
    (hw : Wk (ρ1.set i none) (N s0)) (hok : ∀ s, Ok (N s)) (hf0 : ∀ s, (N s)[i]? = some none)
    (he : ∀ s0 H0 C cl fp x s, XEm (blkX X scope s0 H0 C cl fp) elt ((N s).set i (some (cv x))) (f s x) (N2 x) (fun o => el o.1)) (hw2 : ∀ x o, Wk ((N2 x o).set i none) (N o.2)) :
    XC X x p i elt iter [] scope ρ (N r.2) (aL (r.1.map el)) := by
  refine ⟨tYes, wEc X scope elt, fun _ _ _ _ _ => pts_nil, fun s0 H0 C cl fp => ⟨fun pins s σ H Q I h => h s0 H0 C cl fp pins s I⟩, fun E T t σ H l st Q k => ?_⟩
  obtain ⟨hz, hm1⟩ := mapS_eq hm
  refine hx E T t σ H l st _ fun J E' H' lt st' gv => ?_
  intro D hD
  exact lc_core1 (te := wEc X scope elt) (tt := tYes) (ρ1 := ρ1) (N := N) (el := el) (i := i) (E := E) l (compG_mapT hm1) hz hD st' gv hw hok hf0
    (fun x s k hk T t σ H l st Q q => by cases hk; exact q H st)
    (fun x s y s' hf => ⟨N2 x (y, s'), hw2 x (y, s'), fun T t σ H l st Q q s0 H0 C cl fp => he s0 H0 C cl fp x s (y, s') hf E' T t σ H l st Q q⟩)
    fun H2 st2 => k _ _ (lc_fin l lt (hf0 _) st2)
end
end Mr

set_option Elab.async false
set_option linter.all false
set_option maxRecDepth 100000
namespace Mr
open PySem PySem.Spec PyProof.Rows L2

/-! ### typed data -/
class Cd (α : Type) where
  d : α → PyData
  dep : Nat
  can : ∀ x, (d x).canLay0 = true
  hdep : ∀ x, (d x).depth ≤ dep
class Ce (α : Type) [Cd α] [DecidableEq α] where
  eqv : ∀ x y : α, PyData.eqv (Cd.d x) (Cd.d y) = decide (x = y)
/-- never None -/
class Cn (α : Type) [Cd α] where
  nn : ∀ x : α, isN (Cd.d x) = false
theorem Cd.shp {α : Type} [Cd α] (x : α) (h : Cd.dep α ≤ 64 := by decide) : SeqAt.shaped (Cd.d x) = true := by
  unfold SeqAt.shaped
  rw [Cd.can x, decide_eq_true (Nat.le_trans (Cd.hdep x) h)]
  rfl
structure T3 (α β γ : Type) where
  a : α
  b : β
  c : γ
  deriving DecidableEq
structure T4 (α β γ δ : Type) where
  a : α
  b : β
  c : γ
  d : δ
  deriving DecidableEq
/-- a text that may be compared -/
abbrev Wd := { x : Str // PyData.strOk x = true }
instance : Cd Int := ⟨.int, 0, fun _ => by simp [PyData.canLay0], fun _ => by simp [PyData.depth]⟩
instance : Cd Bool := ⟨.bool, 0, fun _ => by simp [PyData.canLay0], fun _ => by simp [PyData.depth]⟩
instance : Cd Wd := ⟨fun x => .str x.1, 0, fun x => by simp [PyData.canLay0, x.2], fun _ => by simp [PyData.depth]⟩
instance : Cd Unit := ⟨fun _ => .none, 0, fun _ => by simp [PyData.canLay0], fun _ => by simp [PyData.depth]⟩
theorem can_all {α : Type} [Cd α] : ∀ xs : List α, PyData.canLayAll0 (xs.map Cd.d) = true
  | [] => by simp [PyData.canLayAll0]
  | x :: xs => by simp [PyData.canLayAll0, Cd.can x, can_all xs]
theorem dep_all {α : Type} [Cd α] : ∀ xs : List α, PyData.depthAll (xs.map Cd.d) ≤ Cd.dep α
  | [] => by simp [PyData.depthAll]
  | x :: xs => by
    have h1 := Cd.hdep x
    have h2 := dep_all xs
    simp only [List.map_cons, PyData.depthAll]
    omega
instance {α : Type} [Cd α] : Cd (List α) := ⟨fun xs => .list (xs.map Cd.d), Cd.dep α + 1, fun xs => by simp [PyData.canLay0, can_all], fun xs => by
  have := dep_all xs
  simp only [PyData.depth]
  omega⟩
instance {α : Type} [Cd α] : Cd (Option α) := ⟨fun o => match o with | none => .none | some x => Cd.d x, Cd.dep α, fun o => by cases o; simp [PyData.canLay0]; exact Cd.can _, fun o => by cases o; simp [PyData.depth]; exact Cd.hdep _⟩
instance {α β : Type} [Cd α] [Cd β] : Cd (α × β) := ⟨fun p => .tuple [Cd.d p.1, Cd.d p.2], max (Cd.dep α) (Cd.dep β) + 1, fun p => by simp [PyData.canLay0, PyData.canLayAll0, Cd.can], fun p => by
  have h1 := Cd.hdep p.1
  have h2 := Cd.hdep p.2
  simp only [PyData.depth, PyData.depthAll]
  omega⟩
instance {α β γ : Type} [Cd α] [Cd β] [Cd γ] : Cd (T3 α β γ) := ⟨fun p => .tuple [Cd.d p.a, Cd.d p.b, Cd.d p.c], max (Cd.dep α) (max (Cd.dep β) (Cd.dep γ)) + 1, fun p => by simp [PyData.canLay0, PyData.canLayAll0, Cd.can], fun p => by
  have h1 := Cd.hdep p.a
  have h2 := Cd.hdep p.b
  have h3 := Cd.hdep p.c
  simp only [PyData.depth, PyData.depthAll]
  omega⟩
instance {α β γ δ : Type} [Cd α] [Cd β] [Cd γ] [Cd δ] : Cd (T4 α β γ δ) := ⟨fun p => .tuple [Cd.d p.a, Cd.d p.b, Cd.d p.c, Cd.d p.d], max (Cd.dep α) (max (Cd.dep β) (max (Cd.dep γ) (Cd.dep δ))) + 1, fun p => by simp [PyData.canLay0, PyData.canLayAll0, Cd.can], fun p => by
  have h1 := Cd.hdep p.a
  have h2 := Cd.hdep p.b
  have h3 := Cd.hdep p.c
  have h4 := Cd.hdep p.d
  simp only [PyData.depth, PyData.depthAll]
  omega⟩
instance : Cn Int := ⟨fun _ => rfl⟩
instance : Cn Bool := ⟨fun _ => rfl⟩
instance : Cn Wd := ⟨fun _ => rfl⟩
instance {α : Type} [Cd α] : Cn (List α) := ⟨fun _ => rfl⟩
instance {α β : Type} [Cd α] [Cd β] : Cn (α × β) := ⟨fun _ => rfl⟩
instance {α β γ : Type} [Cd α] [Cd β] [Cd γ] : Cn (T3 α β γ) := ⟨fun _ => rfl⟩
instance {α β γ δ : Type} [Cd α] [Cd β] [Cd γ] [Cd δ] : Cn (T4 α β γ δ) := ⟨fun _ => rfl⟩
instance : Ce Int := ⟨fun x y => by show (x == y) = _; rw [Bool.beq_eq_decide_eq]⟩
instance : Ce Bool := ⟨fun x y => by show (x == y) = _; rw [Bool.beq_eq_decide_eq]⟩
theorem beq_dec {α : Type} [DecidableEq α] (x y : α) (h : ∀ x y : α, (x == y) = decide (x = y)) : (x == y) = decide (x = y) := h x y
instance : Ce Unit := ⟨fun x y => by cases x; cases y; rfl⟩
theorem eqv_all {α : Type} [Cd α] [DecidableEq α] [Ce α] : ∀ xs ys : List α, PyData.eqvAll (xs.map Cd.d) (ys.map Cd.d) = decide (xs = ys)
  | [], [] => by simp [PyData.eqvAll]
  | [], _ :: _ => by simp [PyData.eqvAll]
  | _ :: _, [] => by simp [PyData.eqvAll]
  | x :: xs, y :: ys => by
    simp only [List.map_cons, PyData.eqvAll, Ce.eqv, eqv_all xs ys, List.cons.injEq, Bool.decide_and]
instance {α : Type} [Cd α] [DecidableEq α] [Ce α] : Ce (List α) := ⟨fun xs ys => by
  show PyData.eqv (.list _) (.list _) = _
  rw [PyData.eqv]
  exact eqv_all xs ys⟩
theorem eqv_non_l {d : PyData} (h : isN d = false) : PyData.eqv .none d = false := by
  cases d <;> first | rfl | (cases h) | simp [PyData.eqv]
theorem eqv_non_r {d : PyData} (h : isN d = false) : PyData.eqv d .none = false := by
  cases d <;> first | rfl | (cases h) | simp [PyData.eqv]
instance {α : Type} [Cd α] [DecidableEq α] [Ce α] [Cn α] : Ce (Option α) := ⟨fun x y => by
  cases x with
  | none =>
    cases y with
    | none => simp [Cd.d, PyData.eqv]
    | some y => 
      show PyData.eqv .none (Cd.d y) = _
      rw [eqv_non_l (Cn.nn y)]
      simp
  | some x =>
    cases y with
    | none =>
      show PyData.eqv (Cd.d x) .none = _
      rw [eqv_non_r (Cn.nn x)]
      simp
    | some y =>
      show PyData.eqv (Cd.d x) (Cd.d y) = _
      rw [Ce.eqv]
      simp⟩
instance {α β : Type} [Cd α] [Cd β] [DecidableEq α] [DecidableEq β] [Ce α] [Ce β] : Ce (α × β) := ⟨fun x y => by
  show PyData.eqv (.tuple _) (.tuple _) = _
  obtain ⟨x1, x2⟩ := x
  obtain ⟨y1, y2⟩ := y
  simp [PyData.eqv, PyData.eqvAll, Ce.eqv, Prod.mk.injEq]⟩
instance {α β γ : Type} [Cd α] [Cd β] [Cd γ] [DecidableEq α] [DecidableEq β] [DecidableEq γ] [Ce α] [Ce β] [Ce γ] : Ce (T3 α β γ) := ⟨fun x y => by
  show PyData.eqv (.tuple _) (.tuple _) = _
  obtain ⟨x1, x2, x3⟩ := x
  obtain ⟨y1, y2, y3⟩ := y
  simp [PyData.eqv, PyData.eqvAll, Ce.eqv, T3.mk.injEq]⟩
instance {α β γ δ : Type} [Cd α] [Cd β] [Cd γ] [Cd δ] [DecidableEq α] [DecidableEq β] [DecidableEq γ] [DecidableEq δ] [Ce α] [Ce β] [Ce γ] [Ce δ] : Ce (T4 α β γ δ) := ⟨fun x y => by
  show PyData.eqv (.tuple _) (.tuple _) = _
  obtain ⟨x1, x2, x3, x4⟩ := x
  obtain ⟨y1, y2, y3, y4⟩ := y
  simp [PyData.eqv, PyData.eqvAll, Ce.eqv, T4.mk.injEq]⟩
instance : Ce Wd := ⟨fun x y => by
  show PyData.eqv (.str x.1) (.str y.1) = _
  simp only [PyData.eqv]
  rw [Bool.eq_iff_iff]
  simp [Subtype.ext_iff]⟩
section
variable {X : Cx} {ρ ρ1 ρ2 ρ3 : Cl} {a b c e : Expr} {pos : Pos} {A B : OA} {α : Type} [Cd α]
theorem atI_map {α β : Type} {f : α → β} {xs : List α} {i : Int} {x : α} (h : atI xs i = some x) : atI (xs.map f) i = some (f x) := by
  unfold atI at h ⊢
  rw [List.length_map]
  cases hk : ixN xs.length i with
  | none => rw [hk] at h; cases h
  | some j =>
    rw [hk] at h
    show (xs.map f)[j]? = _
    have h : xs[j]? = some x := h
    rw [List.getElem?_map, h]
    rfl
theorem xc_ix {xs : List α} {i : Int} {x : α} (ha : XE X a ρ ρ1 A) (hb : XE X b ρ1 ρ2 (aD X.K (.int i))) (r : Rls X.K ρ2 A (xs.map Cd.d)) (h : atI xs i = some x) (hs : PlainIx b := by exact fun _ _ => rfl) : XE X (.Subscript a b pos) ρ ρ2 (aD X.K (Cd.d x)) := xe_ix ha hb r (atI_map h) hs
theorem xc_slice {lo hi : Option Expr} {i j : Option Int} {xs : List α} {p2 : Pos} (ha : XE X a ρ ρ1 A) (hl : XO X lo ρ1 ρ2 i) (hh : XO X hi ρ2 ρ3 j) (r : Rls X.K ρ3 A (xs.map Cd.d)) : XE X (.Subscript a (.Slice lo hi none p2) pos) ρ ρ3 (aLD X.K ((cutL xs i j).map Cd.d)) := by
  have q := xe_slice (p2 := p2) (pos := pos) ha hl hh r
  rwa [cutL_map] at q
theorem xc_cat {xs ys : List α} (ha : XE X a ρ ρ1 A) (hb : XE X b ρ1 ρ2 B) (ra : Rlm X.K ρ2 A (xs.map Cd.d)) (rb : Rlm X.K ρ2 B (ys.map Cd.d)) (hz : xs.length + ys.length ≤ sizeLine) : XE X (.BinOp a .Add b pos) ρ ρ2 (aLD X.K ((xs ++ ys).map Cd.d)) := by
  have q := xe_cat (pos := pos) ha hb ra rb (by simpa using hz)
  rwa [← List.map_append] at q
theorem xkc_eq [DecidableEq α] [Ce α] {x y : α} (hu : X.A.units + 64 < cLine) (ha : XE X a ρ ρ1 A) (hb : XE X b ρ1 ρ2 B) (ra : Rda X.K ρ2 A (Cd.d x)) (rb : Rda X.K ρ2 B (Cd.d y)) (hd : Cd.dep α ≤ 64 := by decide) : XKm X (.Compare a [.Eq] [b] pos) ρ ρ2 (decide (x = y)) := xk_eq hu ha hb ra rb (Cd.shp x hd) (Cd.shp y hd) (Ce.eqv x y)
theorem xkc_ne [DecidableEq α] [Ce α] {x y : α} (hu : X.A.units + 64 < cLine) (ha : XE X a ρ ρ1 A) (hb : XE X b ρ1 ρ2 B) (ra : Rda X.K ρ2 A (Cd.d x)) (rb : Rda X.K ρ2 B (Cd.d y)) (hd : Cd.dep α ≤ 64 := by decide) : XKm X (.Compare a [.NotEq] [b] pos) ρ ρ2 (!decide (x = y)) := xk_ne hu ha hb ra rb (Cd.shp x hd) (Cd.shp y hd) (Ce.eqv x y)
theorem aLD_map {K : PySem.W.Frag} {δ : Type} (cv : δ → PyData) (ys : List δ) : aL (ys.map fun y => aD K (cv y)) = aLD K (ys.map cv) := by
  unfold aLD
  rw [List.map_map]
  rfl
theorem isN_opt [Cn α] (o : Option α) : isN (Cd.d o) = o.isNone := by
  cases o with
  | none => rfl
  | some x => exact Cn.nn x
/-- an owned list is not changed from here on -/
theorem xg_freeze {ω : Type} {sts : List Stmt} {m : Option ω} {Φ : ω → Ent → Ends → Prop} {v : V} {ds : List PyData} (i : Nat) (h : ρ[i]? = some (some (pin v (aLD X.K ds)))) (k : XG X sts (ρ.set i (some (aD X.K (.list ds)))) m Φ) : XG X sts ρ m Φ := fun o ho E σ H D st q => by
  obtain ⟨G, F, f, c⟩ := st
  obtain ⟨w, F1, F2, e1, e2, ⟨e3, p, vs, F', e4, e5, h1, c1⟩, c2⟩ := Cs.slot (T := []) (t := []) rfl (by simpa using c) h
  obtain ⟨q1, q2⟩ := csD c1
  subst e3 e4 e5 q2
  have f0 := f.perm e2
  have g : G p = none := f0.dis p (by simp)
  obtain ⟨f1, st⟩ := f.step e2 (Frm.freeze f.gh g h1)
  obtain ⟨F3, e6, c3⟩ := Cs.back (T := []) (t := []) (A := aD X.K (.list ds)) (F1 := []) rfl (c2.mono (.new g) f1.gh st) (lt_of_get h) e1 ⟨.lst upd_same (DqAll.mono (.new g) _ _ q1), rfl⟩
  exact k o ho E σ H D ⟨_, F3, f1.perm e6.symm, by simpa using c3⟩ q
end
theorem wk_0 : Wk [] [] := trivial
theorem wk_n {a : Option OA} {l l' : Cl} (h : Wk l l') : Wk (a :: l) (none :: l') := by
  cases a <;> exact h
theorem wk_k {a : OA} {l l' : Cl} (h : Wk l l') : Wk (some a :: l) (some a :: l') := ⟨rfl, h⟩

/-! ### mirrors' guards -/
def mulM (i j : Int) : Option Int := if MulOk i j then some (i * j) else none
def divM (i j : Int) : Option Int := if DivOk j then some (i / j) else none
def modM (i j : Int) : Option Int := if 0 < j then some (i % j) else none
def guardO (p : Prop) [Decidable p] : Option Unit := if p then some () else none
theorem mulM_eq {i j k : Int} (h : mulM i j = some k) : MulOk i j ∧ i * j = k := by
  unfold mulM at h
  split at h
  · cases h; exact ⟨by assumption, rfl⟩
  · cases h
theorem divM_eq {i j k : Int} (h : divM i j = some k) : DivOk j ∧ i / j = k := by
  unfold divM at h
  split at h
  · cases h; exact ⟨by assumption, rfl⟩
  · cases h
theorem modM_eq {i j k : Int} (h : modM i j = some k) : 0 < j ∧ i % j = k := by
  unfold modM at h
  split at h
  · cases h; exact ⟨by assumption, rfl⟩
  · cases h
theorem guardO_eq {p : Prop} [Decidable p] {u : Unit} (h : guardO p = some u) : p := by
  unfold guardO at h
  split at h
  · assumption
  · cases h
theorem xe_isI {X : Cx} {a : Expr} {ρ ρ1 : Cl} {i j : Int} (h : XE X a ρ ρ1 (aD X.K (.int i))) (e : i = j) : XE X a ρ ρ1 (aD X.K (.int j)) := e ▸ h
end Mr

set_option Elab.async false
set_option linter.all false
set_option maxRecDepth 100000
namespace Mr
open PySem PySem.Spec PyProof.Rows L2

theorem sz_of {n : Nat} (h : n ≤ 1000000) : n ≤ sizeLine := Nat.le_trans h (by decide)
theorem sz_lt {n : Nat} (h : n < 1000000) : n < sizeLine := Nat.lt_of_lt_of_le h (by decide)
/-- a written tuple of ints of the module -/
def GTup (K : PySem.W.Frag) (mg : Str → Option Value) (x : Str) (ns : List Int) : Prop := ∃ a, mg x = some (.ref a) ∧ ∀ G : Hp, SqT K G a (ns.map V.int)
theorem GTup.mk' {K : PySem.W.Frag} {mg : Str → Option Value} {x : Str} {ns : List Int} {a : Addr} {od : Option Addr} {vs : Array Value} {n : Nat} {sl : Array (Option Value)} (h : mg x = some (.ref a)) (l : K.lookup a = some ⟨.type "tuple", od, .seq vs n, sl⟩) (hz : vs.size ≤ sizeLine) (r : Vals (ns.map V.int) vs.toList) : GTup K mg x ns :=
  ⟨a, h, fun G => .inr ⟨_, vs, n, l, rfl, rfl, hz, r⟩⟩
theorem dq_ints {K : PySem.W.Frag} {G : Hp} : ∀ ns : List Int, DqAll K G (ns.map V.int) (ns.map Cd.d)
  | [] => .nil
  | n :: ns => .cons (.int n) (dq_ints ns)
section
variable {X : Cx} {ρ ρ1 ρ2 ρ3 : Cl} {a b c e o : Expr} {pos p : Pos} {A B : OA} {α : Type} [Cd α]
theorem xe_gTup {x : Str} {ns : List Int} (h : GTup X.K X.mg x ns) (hg : Gl X x := by rfl) (hd : (x == ("__debug__" : Str)) = false := by decide) : XE X (.Name x pos) ρ ρ (aD X.K (.tuple (ns.map Cd.d))) := by
  obtain ⟨a, h1, h2⟩ := h
  exact xe_c (v := .ref a) (pe_glob hg h1 rfl hd) fun G => .tup (h2 G) (dq_ints ns)
theorem xc_ixT {xs : List α} {i : Int} {x : α} (ha : XE X a ρ ρ1 A) (hb : XE X b ρ1 ρ2 (aD X.K (.int i))) (r : Rtu X.K ρ2 A (xs.map Cd.d)) (h : atI xs i = some x) (hs : PlainIx b := by exact fun _ _ => rfl) : XE X (.Subscript a b pos) ρ ρ2 (aD X.K (Cd.d x)) := xe_ixT ha hb r (atI_map h) hs
theorem xe_lstD {xs : List α} {es : List Expr} (h : XA X es ρ ρ1 ((xs.map Cd.d).map (aD X.K))) (hz : xs.length ≤ 1000) : XE X (.List es pos) ρ ρ1 (aLD X.K (xs.map Cd.d)) := xe_lst h (by simpa using hz)
theorem xe_nv {v x : α} (h : XE X a ρ ρ1 (aD X.K (Cd.d v))) (e : v = x) : XE X a ρ ρ1 (aD X.K (Cd.d x)) := e ▸ h
theorem xe_unopt {o : Option α} {x : α} (h : XE X a ρ ρ1 (aD X.K (Cd.d o))) (e : o = some x) : XE X a ρ ρ1 (aD X.K (Cd.d x)) := by
  subst e
  exact h
theorem xc_truth {xs : List α} (h : XE X a ρ ρ1 A) {n : Nat} (r : Rsq X.K ρ1 A n) (hl : Rls X.K ρ1 A (xs.map Cd.d)) (he : ∀ whole, isTrue a X.env whole = (do let v ← whole; standAt a.pos; holding [v] (truthy v)) := by intro _; rfl) : XT X a ρ ρ1 (!xs.isEmpty) := by
  have q := xt_list h r hl he
  have e : (xs.map (Cd.d (α := α))).isEmpty = xs.isEmpty := by cases xs <;> rfl
  rwa [e] at q
theorem xc_len {xs : List α} (ha : XE X a ρ ρ1 A) (r : Rls X.K ρ1 A (xs.map Cd.d)) (hm : X.mg "len" = none) (hg : Gl X "len" := by rfl) (hs : starEach [a] X.env = [(false, eval a X.env)] := by rfl) (hpl : (backTo pos (starEach [] X.env)).any (·.1) = false := by rfl) : XE X (.Call (.Name "len" p) [a] [] pos) ρ ρ1 (aD X.K (.int ((xs.length : Nat) : Int))) := by
  have q := xe_len (p := p) (pos := pos) ha (Rls.sq r) hm hg hs hpl
  rwa [List.length_map] at q
theorem isi_opt {U : String} {k : Bool} (o : Option α) (h0 : kitB "NoneType" U = some false) {T : String} (hT : ∀ x : α, tyN (Cd.d x) = T) (h1 : kitB T U = some k) : kitB (tyN (Cd.d o)) U = some (Option.elim o false fun _ => k) := by
  cases o with
  | none => exact h0
  | some x =>
    show kitB (tyN (Cd.d x)) U = some k
    rw [hT x]
    exact h1
theorem xp_setD {α : Type} {cv : α → PyData} {xs : List α} {x : α} {v0 : V} (i : Nat) {j : Nat} {n : Int} (ho : XE X o ρ ρ (aV v0)) (hb : XE X b ρ ρ1 (aD X.K (.int n))) (h1 : ρ1[i]? = some (some (pin v0 (aLD X.K (xs.map cv))))) (hn : ixN xs.length n = some j)
    (ha : ∀ v, assign (.Subscript o b pos) X.env v = (do
      let ov ← holding [v] (eval o X.env)
      let iv ← holding [v, ov] (eval b X.env)
      standAt pos
      holding [v, ov, iv] (setItem ov iv v)
      release [v, ov, iv] []) := by intro _; rfl) : XP X (.Subscript o b pos) (aD X.K (cv x)) ρ (ρ1.set i (some (pin v0 (aLD X.K ((xs.set j x).map cv))))) := by
  have q := xp_setL (B := aD X.K (cv x)) i ho hb h1 (by simpa using hn) ha
  have e : ((xs.map cv).map (aD X.K)).set j (aD X.K (cv x)) = ((xs.set j x).map cv).map (aD X.K) := by simp [List.map_set]
  rwa [e] at q
/-! ### lists times an int -/
def RepOk (n : Nat) (k : Int) : Prop := -(2 ^ 63) ≤ k ∧ k < 2 ^ 63 ∧ n * k.toNat ≤ 1000000
instance (n : Nat) (k : Int) : Decidable (RepOk n k) := by unfold RepOk; exact inferInstance
def repL {α : Type} (xs : List α) (k : Int) : List α := (List.replicate k.toNat xs).flatten
theorem repL_map {α β : Type} (f : α → β) (xs : List α) (k : Int) : (repL xs k).map f = repL (xs.map f) k := by
  unfold repL
  rw [List.map_flatten, List.map_replicate]
theorem xc_rep {xs : List α} {k : Int} (hk : RepOk xs.length k) (ha : XE X a ρ ρ1 A) (hb : XE X b ρ1 ρ2 (aD X.K (.int k))) (r : Rlm X.K ρ2 A (xs.map Cd.d)) : XE X (.BinOp a .Mult b pos) ρ ρ2 (aLD X.K ((repL xs k).map Cd.d)) := fun E T t σ H l st Q kk =>
  wE.of (pe_op op_rep peS peS) (ha E T t σ H l st _ fun x H1 st1 => hb E (_ :: T) (_ :: t) σ H1 (by simp [l]) st1 _ fun y H2 st2 => by
    obtain ⟨G, F, Fv, Fw, f, cs, q1, q2, _⟩ := ST.two st2
    cases q2
    obtain ⟨p, vs, e1, e2, e3⟩ := r l cs f.gh q1
    refine ⟨p, k, vs, e1, rfl, e2, hk.1, hk.2.1, ?_, fun p' hp => kk _ _ ?_⟩
    · rw [e3.len, List.length_map]; exact sz_of hk.2.2
    · have q := ST.newL f cs hp (dq_rep e3 k.toNat)
      rw [repL_map]
      exact q)
/-! ### tests by their mirrors -/
def andO (m n : Option Bool) : Option Bool := m.bind fun k => if k = true then n else some false
def orO (m n : Option Bool) : Option Bool := m.bind fun k => if k = true then some true else n
def XWm (X : Cx) (e : Expr) (ρ : Cl) (m : Option Bool) : Prop := ∀ k, m = some k → XW X e ρ ρ k
theorem xwm_and1 {m : Option Bool} (h : XTm X a ρ m) : XWm X (.BoolOp .And [a] pos) ρ m := fun k hk => xw_and1 (h k hk)
theorem xwm_or1 {m : Option Bool} (h : XTm X a ρ m) : XWm X (.BoolOp .Or [a] pos) ρ m := fun k hk => xw_or1 (h k hk)
theorem xwm_and {m n : Option Bool} {rest : List Expr} (h : XTm X a ρ m) (h2 : XWm X (.BoolOp .And (b :: rest) pos) ρ n) : XWm X (.BoolOp .And (a :: b :: rest) pos) ρ (andO m n) := fun k hk => by
  unfold andO at hk
  cases hm : m with
  | none => rw [hm] at hk; cases hk
  | some k1 =>
    rw [hm] at hk
    cases k1 with
    | true => exact xw_and (k2 := k) (h true hm) fun _ => h2 k hk
    | false => cases hk; exact xw_and (k2 := false) (h false hm) fun z => nomatch z
theorem xwm_or {m n : Option Bool} {rest : List Expr} (h : XTm X a ρ m) (h2 : XWm X (.BoolOp .Or (b :: rest) pos) ρ n) : XWm X (.BoolOp .Or (a :: b :: rest) pos) ρ (orO m n) := fun k hk => by
  unfold orO at hk
  cases hm : m with
  | none => rw [hm] at hk; cases hk
  | some k1 =>
    rw [hm] at hk
    cases k1 with
    | false => exact xw_or (k2 := k) (h false hm) fun _ => h2 k hk
    | true => cases hk; exact xw_or (k2 := true) (h true hm) fun z => nomatch z
/-- the first operand may change what is known -/
theorem xw_and' {k k2 : Bool} {rest : List Expr} (h : XT X a ρ ρ1 k) (h2 : k = true → XW X (.BoolOp .And (b :: rest) pos) ρ1 ρ1 k2) : XW X (.BoolOp .And (a :: b :: rest) pos) ρ ρ1 (k && k2) := fun E T t σ H l st Q kk => wW.of (pw_and ptS pwS) (h E T t σ H l st _ fun H1 st1 => by
  cases k with
  | true => exact h2 rfl E T t σ H1 l st1 Q kk
  | false => exact kk H1 st1)
theorem xw_or' {k k2 : Bool} {rest : List Expr} (h : XT X a ρ ρ1 k) (h2 : k = false → XW X (.BoolOp .Or (b :: rest) pos) ρ1 ρ1 k2) : XW X (.BoolOp .Or (a :: b :: rest) pos) ρ ρ1 (k || k2) := fun E T t σ H l st Q kk => wW.of (pw_or ptS pwS) (h E T t σ H l st _ fun H1 st1 => by
  cases k with
  | false => exact h2 rfl E T t σ H1 l st1 Q kk
  | true => exact kk H1 st1)
theorem xw_andM {k k2 : Bool} {n : Option Bool} {rest : List Expr} (h : XT X a ρ ρ1 k) (h2 : XWm X (.BoolOp .And (b :: rest) pos) ρ1 n) (hk : (if k = true then n else some false) = some k2) : XW X (.BoolOp .And (a :: b :: rest) pos) ρ ρ1 k2 := by
  cases k with
  | true => exact xw_and' h fun _ => h2 k2 hk
  | false => cases hk; exact xw_and' (k2 := false) h fun z => nomatch z
theorem xw_orM {k k2 : Bool} {n : Option Bool} {rest : List Expr} (h : XT X a ρ ρ1 k) (h2 : XWm X (.BoolOp .Or (b :: rest) pos) ρ1 n) (hk : (if k = true then some true else n) = some k2) : XW X (.BoolOp .Or (a :: b :: rest) pos) ρ ρ1 k2 := by
  cases k with
  | false => exact xw_or' h fun _ => h2 k2 hk
  | true => cases hk; exact xw_or' (k2 := true) h fun z => nomatch z
/-- bools as values by their mirrors -/
def XBm (X : Cx) (e : Expr) (ρ : Cl) (m : Option Bool) : Prop := ∀ k, m = some k → XE X e ρ ρ (aD X.K (.bool k))
theorem xbm_bind {κ : Type} {m1 : Option κ} {k : κ → Option Bool} (h : ∀ x, m1 = some x → XBm X e ρ (k x)) : XBm X e ρ (m1.bind k) := fun o ho => by
  cases hm : m1 with
  | none => rw [hm] at ho; cases ho
  | some x => rw [hm] at ho; exact h x hm o ho
theorem xbm_some {k : Bool} (h : XE X e ρ ρ (aD X.K (.bool k))) : XBm X e ρ (some k) := fun _ ho => by cases ho; exact h
theorem xbm_one {op : BoolOp} {m : Option Bool} (h : XBm X a ρ m) : XBm X (.BoolOp op [a] pos) ρ m := fun k hk => xe_one (h k hk)
theorem xbm_and {m n : Option Bool} {rest : List Expr} (h : XBm X a ρ m) (h2 : XBm X (.BoolOp .And (b :: rest) pos) ρ n) : XBm X (.BoolOp .And (a :: b :: rest) pos) ρ (andO m n) := fun k hk => by
  unfold andO at hk
  cases hm : m with
  | none => rw [hm] at hk; cases hk
  | some k1 =>
    rw [hm] at hk
    cases k1 with
    | true => exact xe_and (k2 := k) (h true hm) fun _ => h2 k hk
    | false => cases hk; exact xe_and (k2 := false) (h false hm) fun z => nomatch z
theorem xbm_or {m n : Option Bool} {rest : List Expr} (h : XBm X a ρ m) (h2 : XBm X (.BoolOp .Or (b :: rest) pos) ρ n) : XBm X (.BoolOp .Or (a :: b :: rest) pos) ρ (orO m n) := fun k hk => by
  unfold orO at hk
  cases hm : m with
  | none => rw [hm] at hk; cases hk
  | some k1 =>
    rw [hm] at hk
    cases k1 with
    | false => exact xe_or (k2 := k) (h false hm) fun _ => h2 k hk
    | true => cases hk; exact xe_or (k2 := true) (h true hm) fun z => nomatch z
theorem xe_andM {k k2 : Bool} {n : Option Bool} {rest : List Expr} (h : XE X a ρ ρ1 (aD X.K (.bool k))) (h2 : XBm X (.BoolOp .And (b :: rest) pos) ρ1 n) (hk : (if k = true then n else some false) = some k2) : XE X (.BoolOp .And (a :: b :: rest) pos) ρ ρ1 (aD X.K (.bool k2)) := fun E T t σ H l st Q kk => wE.of (pe_and peS peS) (h E T t σ H l st _ fun x H1 st1 => by
  obtain ⟨G, F, f, cs, q⟩ := ST.top st1
  cases q
  refine ⟨k, rfl, ?_⟩
  cases k with
  | true => exact h2 k2 hk E T t σ H1 l ⟨G, F, f, cs⟩ Q kk
  | false => cases hk; exact kk _ H1 (ST.put f cs (.bl _)))
theorem xe_orM {k k2 : Bool} {n : Option Bool} {rest : List Expr} (h : XE X a ρ ρ1 (aD X.K (.bool k))) (h2 : XBm X (.BoolOp .Or (b :: rest) pos) ρ1 n) (hk : (if k = true then some true else n) = some k2) : XE X (.BoolOp .Or (a :: b :: rest) pos) ρ ρ1 (aD X.K (.bool k2)) := fun E T t σ H l st Q kk => wE.of (pe_or peS peS) (h E T t σ H l st _ fun x H1 st1 => by
  obtain ⟨G, F, f, cs, q⟩ := ST.top st1
  cases q
  refine ⟨k, rfl, ?_⟩
  cases k with
  | false => exact h2 k2 hk E T t σ H1 l ⟨G, F, f, cs⟩ Q kk
  | true => cases hk; exact kk _ H1 (ST.put f cs (.bl _)))
theorem xe_ite {k : Bool} {d : α → PyData} {x y : α} (h : XT X c ρ ρ1 k) (h1 : k = true → XE X a ρ1 ρ2 (aD X.K (d x))) (h2 : k = false → XE X b ρ1 ρ2 (aD X.K (d y))) : XE X (.IfExp c a b pos) ρ ρ2 (aD X.K (d (if k = true then x else y))) := by
  cases k with
  | true => exact xe_if h (fun _ => h1 rfl) fun z => nomatch z
  | false => exact xe_if h (fun z => nomatch z) fun _ => h2 rfl
end
/-- the law's own promise at the script -/
theorem law_sp {K : PySem.W.Frag} {H : Hp} {a : Addr} {ns : List Int} {n : Nat} {m : List Int → Option Bool} (hl : ns.length ≤ n) (hS : SqL K H a (ns.map V.int)) (ht : m ns = some true) {E : XK} :
    SpM (fun x : List Int => [aR K (List.map Cd.d x)]) m (fun _ _ => [none]) (fun _ (r : Bool) => aD K (Cd.d r)) [.ref a] H (fun v _ => v = .bl true) E := by
  refine ⟨ns, true, H, [], ht, ⟨.refl _, .refl _, by simp, fun b hb => by simp at hb, fun b hb => by simp at hb, fun _ _ q _ => q, fun b hb => by simp at hb, fun b o q n => by rw [show H b = none from n] at q; cases q⟩, ⟨.ref a, [], [], rfl, rfl, ⟨⟨a, _, rfl, hS, dq_ints ns⟩, rfl⟩, rfl⟩, rfl, fun v H' st => ?_⟩
  obtain ⟨G, F, f, c, q⟩ := ST.top (d := .bool true) st
  cases q
  rfl
end Mr

set_option Elab.async false
set_option linter.all false
set_option maxRecDepth 100000
namespace Mr
open PySem PySem.Spec PyProof.Rows L2

/-! ### more methods of owned lists of data -/
def popL {α : Type} (xs : List α) (n : Int) : Option (α × List α) := if -(2 ^ 63) ≤ n ∧ n < 2 ^ 63 then (seqIndex? n xs.length).bind fun k => (xs[k]?).bind fun x => some (x, xs.eraseIdx k) else none
def insL {α : Type} (xs : List α) (n : Int) (x : α) : Option (List α) := if xs.length < 1000000 ∧ 0 ≤ n ∧ n < 2 ^ 63 then some (xs.take n.toNat ++ [x] ++ xs.drop n.toNat) else none
theorem popL_eq {α : Type} {xs : List α} {n : Int} {r : α × List α} (h : popL xs n = some r) : -(2 ^ 63) ≤ n ∧ n < 2 ^ 63 ∧ ∃ k, seqIndex? n xs.length = some k ∧ xs[k]? = some r.1 ∧ r.2 = xs.eraseIdx k := by
  unfold popL at h
  split at h
  · rename_i hc
    cases hk : seqIndex? n xs.length with
    | none => rw [hk] at h; cases h
    | some k =>
      rw [hk] at h
      have h : ((xs[k]?).bind fun x => some (x, xs.eraseIdx k)) = some r := h
      cases hx : xs[k]? with
      | none => rw [hx] at h; cases h
      | some x =>
        rw [hx] at h
        cases h
        exact ⟨hc.1, hc.2, k, rfl, hx, rfl⟩
  · cases h
theorem insL_eq {α : Type} {xs : List α} {n : Int} {x : α} {r : List α} (h : insL xs n x = some r) : (xs.length < 1000000 ∧ 0 ≤ n ∧ n < 2 ^ 63) ∧ r = xs.take n.toNat ++ [x] ++ xs.drop n.toNat := by
  unfold insL at h
  split at h
  · cases h; exact ⟨by assumption, rfl⟩
  · cases h
theorem DqAll.map_eq {K : PySem.W.Frag} {G : Hp} {α : Type} {cv : α → PyData} {xs : List α} {vs : List V} (h : DqAll K G vs (xs.map cv)) : vs.length = xs.length := by
  rw [h.len, List.length_map]
theorem cs_ofD {K : PySem.W.Frag} {G H : Hp} {α : Type} {cv : α → PyData} {xs : List α} {vs : List V} (h : DqAll K G vs (xs.map cv)) : Cs G H (((xs.map cv).map (aD K)).map some) (vs.map some) [] := csD' h
/-- values that are known to be data -/
def aAll (K : PySem.W.Frag) (us : List V) (ds : List PyData) : OA := ⟨fun G _ _ F => DqAll K G us ds ∧ F = [], fun h e _ _ => ⟨DqAll.mono e _ _ h.1, h.2⟩⟩
theorem dq_erase {K : PySem.W.Frag} {G : Hp} : ∀ {ds : List PyData} {vs : List V} (k : Nat), DqAll K G vs ds → DqAll K G (vs.eraseIdx k) (ds.eraseIdx k)
  | [], _, k, h => by cases h; cases k <;> exact .nil
  | d :: ds, _, 0, h => by
    cases h with
    | cons h1 h2 => exact h2
  | d :: ds, _, k + 1, h => by
    cases h with
    | cons h1 h2 => exact .cons h1 (dq_erase k h2)
theorem map_erase {α β : Type} (f : α → β) : ∀ (xs : List α) (k : Nat), (xs.eraseIdx k).map f = (xs.map f).eraseIdx k
  | [], k => by cases k <;> rfl
  | x :: xs, 0 => rfl
  | x :: xs, k + 1 => congrArg (f x :: ·) (map_erase f xs k)
section
variable {X : Cx} {ρ ρ1 ρ2 ρ3 : Cl} {a b c e o : Expr} {pos p apos cpos : Pos} {A B : OA} {As0 : List OA} {v0 : V} {α : Type} {cv : α → PyData} {xs : List α}
/-- xs.pop(e) -/
theorem xe_popAt (i : Nat) {n : Int} {r : α × List α} (hr : popL xs n = some r) (ho : XE X o ρ ρ (aV v0)) (h0 : ρ[i]? = some (some (pin v0 (aL As0)))) (he : XE X e ρ ρ1 (aD X.K (.int n))) (h1 : ρ1[i]? = some (some (pin v0 (aLD X.K (xs.map cv)))))
    (hbase : attributeBase o "pop" X.env (eval o X.env) = eval o X.env := by rfl) (hfew : ((backTo cpos (starEach [e] X.env)).all (fun x => !x.1) && (backToKw cpos (keywordEach [] X.env)).all (fun x => x.1.isSome) && decide ([e].length + ([] : List Keyword).length + (if ([] : List Keyword).isEmpty then 0 else 1) < 30)) = true := by rfl)
    (hline : (apos.endLine == cpos.line) = true := by rfl) (hs : starEach [e] X.env = (false, eval e X.env) :: starEach [] X.env := by rfl) (hplain : (backTo cpos (starEach [] X.env)).any (·.1) = false := by rfl) :
    XE X (.Call (.Attribute o "pop" apos) [e] [] cpos) ρ (ρ1.set i (some (pin v0 (aLD X.K (r.2.map cv))))) (aD X.K (cv r.1)) := fun E T t σ H l st Q k =>
  wE.of (pe_bm PySem.F.plainAttrs_list PySem.F.slot_list_pop PySem.F.type_list_pop mt_popAt peS (pa_cons peS pa_nil hs) hbase hfew hline hs hplain) (ho E T t σ H l st _ fun x H1 st1 => by
    obtain ⟨e0, ty⟩ := ST.isL (X := X) l st1 h0
    subst e0
    refine ⟨ty, he E (_ :: T) (_ :: t) σ H1 (by simp [l]) st1 _ fun y H2 st2 => ?_⟩
    obtain ⟨G, F, f, c, q1⟩ := ST.top st2
    cases q1
    have st3 : ST E (T ++ ρ1) (t ++ σ) H2 := ST.pop (A := aV x) (x := some x) ⟨G, F, f, c⟩
    clear c f
    obtain ⟨G1, Fg, f, c⟩ := st3
    obtain ⟨w, F1, F2, e1, e2, ⟨e3, p, vs, F', e4, e5, h3, c1⟩, c2⟩ := c.slot l h1
    subst e3 e4
    obtain ⟨q1, q2⟩ := csD c1
    obtain ⟨b1, b2, k0, hk, hx, er⟩ := popL_eq hr
    obtain ⟨v, hv, qv⟩ := q1.get (i := k0) (d := cv r.1) (by rw [List.getElem?_map, hx]; rfl)
    have st4 : ST E (some (aD X.K .none) :: ((some (aD X.K (cv r.1)) :: T) ++ ρ1)) (some .non :: ((some v :: t) ++ σ)) H2 := ST.putN X.K (ST.put f c qv)
    obtain ⟨p', vs', e6, h4, hl, go⟩ := ST.modL (T := some (aD X.K (cv r.1)) :: T) (t := some v :: t) (by simp [l]) st4 h1
    cases e6
    rw [h3] at h4
    cases h4
    refine ⟨p, vs, n, k0, v, rfl, rfl, h3, b1, b2, by rw [q1.map_eq]; exact hk, hv, k _ _ ?_⟩
    refine go ((r.2.map cv).map (aD X.K)) (vs.eraseIdx k0) fun G H F1 F2 c q => ?_
    obtain ⟨q3, q4⟩ := csD c
    refine ⟨[], fun b hb => by simp at hb, fun _ => by simp, csD' ?_⟩
    rw [er, map_erase]
    exact dq_erase k0 q3)
/-- xs.insert(e, x) -/
theorem xe_insertD (i : Nat) {n : Int} {x : α} {r : List α} (hr : insL xs n x = some r) (ho : XE X o ρ ρ (aV v0)) (h0 : ρ[i]? = some (some (pin v0 (aL As0)))) (he : XE X e ρ ρ1 (aD X.K (.int n))) (hb : XE X b ρ1 ρ2 (aD X.K (cv x))) (h1 : ρ2[i]? = some (some (pin v0 (aLD X.K (xs.map cv)))))
    (hbase : attributeBase o "insert" X.env (eval o X.env) = eval o X.env := by rfl) (hfew : ((backTo cpos (starEach [e, b] X.env)).all (fun x => !x.1) && (backToKw cpos (keywordEach [] X.env)).all (fun x => x.1.isSome) && decide ([e, b].length + ([] : List Keyword).length + (if ([] : List Keyword).isEmpty then 0 else 1) < 30)) = true := by rfl)
    (hline : (apos.endLine == cpos.line) = true := by rfl) (hs : starEach [e, b] X.env = (false, eval e X.env) :: starEach [b] X.env := by rfl) (hs2 : starEach [b] X.env = [(false, eval b X.env)] := by rfl) (hplain : (backTo cpos (starEach [b] X.env)).any (·.1) = false := by rfl) :
    XE X (.Call (.Attribute o "insert" apos) [e, b] [] cpos) ρ (ρ2.set i (some (pin v0 (aLD X.K (r.map cv))))) (aD X.K .none) := fun E T t σ H l st Q k =>
  wE.of (pe_bm PySem.F.plainAttrs_list PySem.F.slot_list_insert PySem.F.type_list_insert mt_insert peS (pa_cons peS (pa_cons peS pa_nil hs2) (by rw [hs])) hbase hfew hline hs hplain) (ho E T t σ H l st _ fun y H1 st1 => by
    obtain ⟨e0, ty⟩ := ST.isL (X := X) l st1 h0
    subst e0
    refine ⟨ty, he E (_ :: T) (_ :: t) σ H1 (by simp [l]) st1 _ fun z H2 st2 => hb E (_ :: _ :: T) (_ :: _ :: t) σ H2 (by simp [l]) st2 _ fun u H3 st3 => ?_⟩
    have st4 : ST E (some (aD X.K (cv x)) :: some (aD X.K (.int n)) :: (T ++ ρ2)) (some u :: some z :: (t ++ σ)) H3 := by
      obtain ⟨G, F, f, w, F1, F2, e1, e2, q, w2, F3, F4, e3, e4, q2, w5, F5, F6, e5, e6, q5, c⟩ := st3
      subst e6 e4 e2
      exact ⟨G, F1 ++ (F3 ++ F6), f.less (List.Sublist.append_left (List.Sublist.append_left (List.sublist_append_right _ _) F3) F1), w, F1, _, e1, rfl, q, w2, F3, F6, e3, rfl, q2, c⟩
    have ez : z = .int n := by
      obtain ⟨G, F, f, c, q1, q2⟩ := ST.top2 st4
      cases q1
      rfl
    subst ez
    have st5 := ST.drop2 st4
    obtain ⟨p, vs, e1, h2, hl, go⟩ := ST.modL l st5 h1
    obtain ⟨⟨b1, b2, b3⟩, er⟩ := insL_eq hr
    refine ⟨p, vs, n, u, e1, rfl, h2, by rw [hl]; simp; exact sz_lt b1, b2, b3, k _ _ ?_⟩
    have st6 := go ((r.map cv).map (aD X.K)) (vs.take n.toNat ++ [u] ++ vs.drop n.toNat) fun G H F1 F2 c q => by
      obtain ⟨q3, q4⟩ := csD c
      obtain ⟨q5, q6⟩ := q
      refine ⟨[], fun b hb => by simp at hb, fun _ => by simp, csD' ?_⟩
      rw [er]
      simp only [List.map_append, List.map_take, List.map_drop, List.map_cons, List.map_nil]
      exact ((q3.take _).append (.cons q5 .nil)).append (q3.drop _)
    exact ST.putN X.K st6)
/-- xs.extend(ys) -/
theorem xe_extendD (i : Nat) {ys : List α} (hz : xs.length + ys.length ≤ 1000000) (ho : XE X o ρ ρ (aV v0)) (h0 : ρ[i]? = some (some (pin v0 (aL As0)))) (he : XE X e ρ ρ1 A) (r : Rlm X.K ρ1 A (ys.map cv)) (h1 : ρ1[i]? = some (some (pin v0 (aLD X.K (xs.map cv)))))
    (hbase : attributeBase o "extend" X.env (eval o X.env) = eval o X.env := by rfl) (hfew : ((backTo cpos (starEach [e] X.env)).all (fun x => !x.1) && (backToKw cpos (keywordEach [] X.env)).all (fun x => x.1.isSome) && decide ([e].length + ([] : List Keyword).length + (if ([] : List Keyword).isEmpty then 0 else 1) < 30)) = true := by rfl)
    (hline : (apos.endLine == cpos.line) = true := by rfl) (hs : starEach [e] X.env = (false, eval e X.env) :: starEach [] X.env := by rfl) (hplain : (backTo cpos (starEach [] X.env)).any (·.1) = false := by rfl) :
    XE X (.Call (.Attribute o "extend" apos) [e] [] cpos) ρ (ρ1.set i (some (pin v0 (aLD X.K ((xs ++ ys).map cv))))) (aD X.K .none) := fun E T t σ H l st Q k =>
  wE.of (pe_bm PySem.F.plainAttrs_list PySem.F.slot_list_extend PySem.F.type_list_extend mt_extend peS (pa_cons peS pa_nil hs) hbase hfew hline hs hplain) (ho E T t σ H l st _ fun x H1 st1 => by
    obtain ⟨e0, ty⟩ := ST.isL (X := X) l st1 h0
    subst e0
    refine ⟨ty, he E (_ :: T) (_ :: t) σ H1 (by simp [l]) st1 _ fun y H2 st2 => ?_⟩
    have st3 := ST.drop2 st2
    obtain ⟨G, F, Fv, f, cs, q⟩ := ST.one st3
    obtain ⟨p2, us, e1, e2, e3⟩ := r l cs f.gh q
    have st4 : ST E (some (aAll X.K us (ys.map cv)) :: (T ++ ρ1)) (some .non :: (t ++ σ)) H2 := ⟨G, F, f, .non, [], F, rfl, rfl, ⟨e3, rfl⟩, cs⟩
    obtain ⟨p, vs, e6, h4, hl, go⟩ := ST.modL l st4 h1
    have hvl : vs.length = xs.length := by simpa using hl
    have hul : us.length = ys.length := by simpa using e3.len
    refine ⟨p, p2, vs, us, e6, by rw [e1], h4, e2, by rw [hvl, hul]; exact sz_of hz, k _ _ ?_⟩
    exact ST.putN X.K (go (((xs ++ ys).map cv).map (aD X.K)) (vs ++ us) fun G H F1 F2 c q => by
      obtain ⟨q3, q4⟩ := csD c
      obtain ⟨q5, q6⟩ := q
      refine ⟨[], fun b hb => by simp at hb, fun _ => by simp, csD' ?_⟩
      rw [List.map_append]
      exact q3.append q5))
/-- tuple(xs) of a list -/
theorem ST.newT' {E : Ent} {K : PySem.W.Frag} {L : Cl} {C : L2.St} {G H : Hp} {F : List Addr} {p : Addr} {vs : List V} {ds : List PyData} (f : Frm E G H F) (c : Cs G H L C F) (n : H p = none) (q : DqAll K G vs ds) : ST E (some (aD K (.tuple ds)) :: L) (some (.ref p) :: C) (upd H p (.tup vs)) := ST.newT f c n q
theorem xc_tuple {β : Type} [Cd β] {xs : List β} (ha : XE X a ρ ρ1 A) (r : Rls X.K ρ1 A (xs.map Cd.d)) (hm : X.mg "tuple" = none) (hg : Gl X "tuple" := by rfl) (hs : starEach [a] X.env = [(false, eval a X.env)] := by rfl) (hpl : (backTo pos (starEach [] X.env)).any (·.1) = false := by rfl) : XE X (.Call (.Name "tuple" p) [a] [] pos) ρ ρ1 (aD X.K (.tuple (xs.map Cd.d))) :=
  xe_callTy call_tuple_of (xa_cons ha xa_nil hs) (fun E T t σ vs H Q l hl st k => by
    obtain ⟨v, rfl⟩ := vs1 hl
    obtain ⟨G, F, Fv, f, cs, q⟩ := ST.one st
    obtain ⟨p, ys, e1, e2, e3⟩ := r l cs f.gh q
    exact ⟨p, ys, by rw [e1], .inl ⟨e2, fun l hl => k _ _ (ST.newT f cs hl e3)⟩⟩) hm (by decide +kernel) hg (by decide) (by decide) hs hpl
def toT4 {β : Type} : List β → Option (T4 β β β β)
  | [a, b, c, d] => some ⟨a, b, c, d⟩
  | _ => none
theorem xe_toT4 {β : Type} [Cd β] {xs : List β} {t : T4 β β β β} (h : XE X a ρ ρ1 (aD X.K (.tuple (xs.map Cd.d)))) (e : toT4 xs = some t) : XE X a ρ ρ1 (aD X.K (Cd.d t)) := by
  match xs, e with
  | [_, _, _, _], e => cases e; exact h
end
end Mr

set_option Elab.async false
set_option linter.all false
set_option maxRecDepth 100000
/-! states written out -/
namespace Mr
open PySem PySem.Spec PyProof.Rows L2
section
variable {X : Cx} {ω : Type} {sts : List Stmt} {m : Option ω} {Φ : ω → Ent → Ends → Prop}
theorem xg_st (ρ0 : Cl) {ρ : Cl} (e : ρ0 = ρ) (h : XG X sts ρ0 m Φ) : XG X sts ρ m Φ := e ▸ h
end
end Mr

set_option Elab.async false
set_option linter.all false
set_option maxRecDepth 100000
/-! mathematics of mirrors: plain Lean -/
namespace Mr
open PySem PySem.Spec PyProof.Rows L2
section
variable {α β γ δ : Type}
theorem bsome (a : α) (f : α → Option β) : Option.bind (some a) f = f a := rfl
theorem lett_eq {α β : Type} (v : α) (k : α → β) : lett v k = k v := rfl
theorem foldB_unit {f : Unit → α → Option (γ ⊕ Unit)} : ∀ {xs : List α}, (∀ x, x ∈ xs → f () x = some (.inr ())) → foldB f xs () = some (.inr ())
  | [], _ => rfl
  | x :: xs, h => by
    show thenR (f () x) (foldB f xs) Sum.inl = _
    rw [h x (by simp)]
    exact foldB_unit fun y hy => h y (by simp [hy])
/-- a loop by what holds between its turns -/
theorem foldB_inv {f : β → α → Option (γ ⊕ β)} (I : β → Prop) : ∀ {xs : List α} {s : β}, I s → (∀ x s, x ∈ xs → I s → ∃ s', f s x = some (.inr s') ∧ I s') → ∃ s', foldB f xs s = some (.inr s') ∧ I s'
  | [], s, h, _ => ⟨s, rfl, h⟩
  | x :: xs, s, h, k => by
    obtain ⟨s1, e1, h1⟩ := k x s (by simp) h
    obtain ⟨s2, e2, h2⟩ := foldB_inv I (xs := xs) h1 fun y s hy hs => k y s (by simp [hy]) hs
    refine ⟨s2, ?_, h2⟩
    show thenR (f s x) (foldB f xs) Sum.inl = _
    rw [e1]
    exact e2
theorem foldM_inv {f : β → α → Option β} (I : β → Prop) : ∀ {xs : List α} {s : β}, I s → (∀ x s, x ∈ xs → I s → ∃ s', f s x = some s' ∧ I s') → ∃ s', List.foldlM f s xs = some s' ∧ I s'
  | [], s, h, _ => ⟨s, rfl, h⟩
  | x :: xs, s, h, k => by
    obtain ⟨s1, e1, h1⟩ := k x s (by simp) h
    obtain ⟨s2, e2, h2⟩ := foldM_inv I (xs := xs) h1 fun y s hy hs => k y s (by simp [hy]) hs
    refine ⟨s2, ?_, h2⟩
    rw [List.foldlM_cons, e1]
    exact e2
/-- with the number of turns that are behind -/
theorem foldM_idx {f : β → α → Option β} (I : Nat → β → Prop) : ∀ {xs : List α} {n : Nat} {s : β}, I n s → (∀ (i : Nat) x s, xs[i]? = some x → I (n + i) s → ∃ s', f s x = some s' ∧ I (n + i + 1) s') → ∃ s', List.foldlM f s xs = some s' ∧ I (n + xs.length) s'
  | [], n, s, h, _ => ⟨s, rfl, h⟩
  | x :: xs, n, s, h, k => by
    obtain ⟨s1, e1, h1⟩ := k 0 x s rfl h
    obtain ⟨s2, e2, h2⟩ := foldM_idx I (xs := xs) (n := n + 1) h1 fun i y s hy hs => by
      have e : n + 1 + i = n + (i + 1) := by omega
      rw [e] at hs ⊢
      exact k (i + 1) y s hy hs
    refine ⟨s2, ?_, ?_⟩
    · rw [List.foldlM_cons, e1]
      exact e2
    · have e : n + (x :: xs).length = n + 1 + xs.length := by simp; omega
      rw [e]; exact h2
theorem foldB_idx {f : β → α → Option (γ ⊕ β)} (I : Nat → β → Prop) : ∀ {xs : List α} {n : Nat} {s : β}, I n s → (∀ (i : Nat) x s, xs[i]? = some x → I (n + i) s → ∃ s', f s x = some (.inr s') ∧ I (n + i + 1) s') → ∃ s', foldB f xs s = some (.inr s') ∧ I (n + xs.length) s'
  | [], n, s, h, _ => ⟨s, rfl, h⟩
  | x :: xs, n, s, h, k => by
    obtain ⟨s1, e1, h1⟩ := k 0 x s rfl h
    obtain ⟨s2, e2, h2⟩ := foldB_idx I (xs := xs) (n := n + 1) h1 fun i y s hy hs => by
      have e : n + 1 + i = n + (i + 1) := by omega
      rw [e] at hs ⊢
      exact k (i + 1) y s hy hs
    refine ⟨s2, ?_, ?_⟩
    · show thenR (f s x) (foldB f xs) Sum.inl = _
      rw [e1]
      exact e2
    · have e : n + (x :: xs).length = n + 1 + xs.length := by simp; omega
      rw [e]; exact h2
theorem thenR_r {m : Option (γ ⊕ β)} {k : β → Option δ} {f : γ → δ} {s : β} (h : m = some (.inr s)) : thenR m k f = k s := by rw [h]; rfl
theorem thenR_l {m : Option (γ ⊕ β)} {k : β → Option δ} {f : γ → δ} {r : γ} (h : m = some (.inl r)) : thenR m k f = some (f r) := by rw [h]; rfl
theorem mem_rangeI {lo : Int} {n : Nat} {x : Int} : x ∈ rangeI lo n ↔ lo ≤ x ∧ x < lo + n := by
  unfold rangeI
  rw [List.mem_map]
  constructor
  · rintro ⟨i, hi, rfl⟩
    have := List.mem_range.mp hi
    omega
  · intro h
    exact ⟨(x - lo).toNat, List.mem_range.mpr (by omega), by omega⟩
theorem rangeI_at {lo : Int} {n i : Nat} (h : i < n) : (rangeI lo n)[i]? = some (lo + i) := by
  unfold rangeI
  rw [List.getElem?_map, List.getElem?_range h]
  rfl
theorem mulM_some {i j : Int} (h : MulOk i j) : mulM i j = some (i * j) := by unfold mulM; rw [if_pos h]
theorem divM_some {i j : Int} (h : DivOk j) : divM i j = some (i / j) := by unfold divM; rw [if_pos h]
theorem modM_some {i j : Int} (h : 0 < j) : modM i j = some (i % j) := by unfold modM; rw [if_pos h]
theorem guardO_some {p : Prop} [Decidable p] (h : p) : guardO p = some () := by unfold guardO; rw [if_pos h]
theorem atI_nn {xs : List α} {i : Int} (h : 0 ≤ i) : atI xs i = xs[i.toNat]? := by
  unfold atI ixN
  rw [if_pos h]
  by_cases hl : i < xs.length
  · rw [if_pos hl]; rfl
  · rw [if_neg hl, List.getElem?_eq_none (by omega)]; rfl
theorem atI_at {xs : List α} {n : Nat} : atI xs (n : Int) = xs[n]? := by
  rw [atI_nn (by omega)]
  rfl
theorem ixN_nn {n : Nat} {i : Int} (h : 0 ≤ i) (h2 : i < n) : ixN n i = some i.toNat := by
  unfold ixN
  rw [if_pos h, if_pos h2]
theorem atI_lt {xs : List α} {i : Int} (h : 0 ≤ i) (h2 : i < xs.length) : ∃ x, atI xs i = some x ∧ x ∈ xs := by
  rw [atI_nn h]
  have hl : i.toNat < xs.length := by omega
  exact ⟨xs[i.toNat], List.getElem?_eq_getElem hl, List.getElem_mem hl⟩
/-- lists, item by item -/
inductive F2 (R : α → β → Prop) : List α → List β → Prop
  | nil : F2 R [] []
  | cons {x : α} {y : β} {xs : List α} {ys : List β} : R x y → F2 R xs ys → F2 R (x :: xs) (y :: ys)
theorem F2.append {R : α → β → Prop} : ∀ {xs us : List α} {ys vs : List β}, F2 R xs ys → F2 R us vs → F2 R (xs ++ us) (ys ++ vs)
  | _, _, _, _, .nil, h => h
  | _, _, _, _, .cons r t, h => .cons r (t.append h)
theorem F2.len {R : α → β → Prop} : ∀ {xs : List α} {ys : List β}, F2 R xs ys → xs.length = ys.length
  | _, _, .nil => rfl
  | _, _, .cons _ t => congrArg (· + 1) t.len
theorem mapL_some {f : α → Option δ} {g : α → δ} : ∀ {xs : List α}, (∀ x ∈ xs, f x = some (g x)) → mapL f xs = some (xs.map g)
  | [], _ => rfl
  | x :: xs, h => by
    unfold mapL
    rw [h x (by simp), mapL_some fun y hy => h y (by simp [hy])]
    rfl
theorem mapO_some {f : α → Option δ} {g : α → δ} {xs : List α} (hl : xs.length ≤ 1000000) (h : ∀ x ∈ xs, f x = some (g x)) : mapO f xs = some (xs.map g) := by
  unfold mapO
  rw [if_pos hl, mapL_some h]
theorem fltL_some {t : α → Option Bool} {f : α → Option δ} {p : α → Bool} {g : α → δ} : ∀ {xs : List α}, (∀ x ∈ xs, t x = some (p x)) → (∀ x ∈ xs, p x = true → f x = some (g x)) → fltL t f xs = some ((xs.filter p).map g)
  | [], _, _ => rfl
  | x :: xs, h, k => by
    unfold fltL
    have ih := fltL_some (xs := xs) (fun y hy => h y (by simp [hy])) fun y hy => k y (by simp [hy])
    rw [h x (by simp), bsome]
    by_cases hp : p x = true
    · rw [if_pos hp, k x (by simp) hp, bsome, ih, bsome, List.filter_cons, if_pos hp]
      rfl
    · rw [if_neg hp, ih, List.filter_cons, if_neg hp]
theorem fltO_some {t : α → Option Bool} {f : α → Option δ} {p : α → Bool} {g : α → δ} {xs : List α} (hl : xs.length ≤ 1000000) (h : ∀ x ∈ xs, t x = some (p x)) (k : ∀ x ∈ xs, p x = true → f x = some (g x)) : fltO t f xs = some ((xs.filter p).map g) := by
  unfold fltO
  rw [if_pos hl, fltL_some h k]
/-- a comprehension whose elements change something -/
theorem mapT_inv {f : β → α → Option (δ × β)} (I : β → Prop) (R : α → δ → Prop) : ∀ {xs : List α} {s : β}, I s → (∀ x s, x ∈ xs → I s → ∃ y s', f s x = some (y, s') ∧ I s' ∧ R x y) → ∃ ys s', mapT f xs s = some (ys, s') ∧ I s' ∧ F2 R xs ys
  | [], s, h, _ => ⟨[], s, rfl, h, .nil⟩
  | x :: xs, s, h, k => by
    obtain ⟨y, s1, e1, h1, r1⟩ := k x s (by simp) h
    obtain ⟨ys, s2, e2, h2, r2⟩ := mapT_inv I R (xs := xs) h1 fun y s hy hs => k y s (by simp [hy]) hs
    refine ⟨y :: ys, s2, ?_, h2, .cons r1 r2⟩
    unfold mapT
    rw [e1, bsome, e2]
    rfl
theorem mapS_inv {f : β → α → Option (δ × β)} (I : β → Prop) (R : α → δ → Prop) {xs : List α} {s : β} (hl : xs.length ≤ 1000000) (h : I s) (k : ∀ x s, x ∈ xs → I s → ∃ y s', f s x = some (y, s') ∧ I s' ∧ R x y) : ∃ ys s', mapS f xs s = some (ys, s') ∧ I s' ∧ F2 R xs ys := by
  unfold mapS
  rw [if_pos hl]
  exact mapT_inv I R h k
theorem F2.ex_left {R : α → β → Prop} {P : β → Prop} : ∀ {xs : List α} {ys : List β}, F2 R xs ys → (∀ x y, R x y → P y) → ∀ y ∈ ys, P y
  | _, _, .nil, _, y, hy => by simp at hy
  | _, _, .cons r t, h, y, hy => by
    rcases List.mem_cons.mp hy with e | e
    · subst e; exact h _ _ r
    · exact t.ex_left h y e
theorem rangeI_zero (lo : Int) : rangeI lo 0 = [] := rfl
theorem rangeI_succ (lo : Int) (n : Nat) : rangeI lo (n + 1) = lo :: rangeI (lo + 1) n := by
  unfold rangeI
  rw [List.range_succ_eq_map, List.map_cons, List.map_map]
  simp only [Int.natCast_zero, Int.add_zero]
  congr 1
  refine List.map_congr_left fun i _ => ?_
  show lo + ((i + 1 : Nat) : Int) = lo + 1 + (i : Int)
  omega
theorem sIx_none (n d : Nat) : HT.sIx n d none = d := by simp [HT.sIx_none]
theorem sIx_some (n d : Nat) {k : Int} (h : 0 ≤ k) : HT.sIx n d (some k) = min k.toNat n := by
  obtain ⟨m, rfl⟩ : ∃ m : Nat, k = m := ⟨k.toNat, by omega⟩
  rw [HT.sIx_nat]
  simp
theorem cutL_take {xs : List α} {k : Int} (h : 0 ≤ k) : cutL xs none (some k) = xs.take k.toNat := by
  unfold cutL
  rw [sIx_none, sIx_some _ _ h, List.drop_zero, Nat.sub_zero]
  by_cases q : k.toNat ≤ xs.length
  · rw [Nat.min_eq_left q]
  · rw [Nat.min_eq_right (by omega), List.take_of_length_le (Nat.le_refl _), List.take_of_length_le (by omega)]
theorem cutL_drop {xs : List α} {k : Int} (h : 0 ≤ k) : cutL xs (some k) none = xs.drop k.toNat := by
  unfold cutL
  rw [sIx_none, sIx_some _ _ h]
  by_cases q : k.toNat ≤ xs.length
  · rw [Nat.min_eq_left q, List.take_of_length_le (by simp)]
  · rw [Nat.min_eq_right (by omega), List.drop_of_length_le (Nat.le_refl _), List.drop_of_length_le (by omega), List.take_nil]
theorem cutL_mid {xs : List α} {a b : Int} (ha : 0 ≤ a) (hb : 0 ≤ b) : cutL xs (some a) (some b) = (xs.drop a.toNat).take (b.toNat - a.toNat) := by
  unfold cutL
  rw [sIx_some _ _ ha, sIx_some _ _ hb]
  by_cases q : a.toNat ≤ xs.length
  · rw [Nat.min_eq_left q]
    by_cases r : b.toNat ≤ xs.length
    · rw [Nat.min_eq_left r]
    · rw [Nat.min_eq_right (by omega), List.take_of_length_le (by simp), List.take_of_length_le (by simp; omega)]
  · rw [List.drop_of_length_le (show xs.length ≤ min a.toNat xs.length by omega), List.drop_of_length_le (by omega), List.take_nil, List.take_nil]
theorem cutL_all {xs : List α} : cutL xs none none = xs := by
  unfold cutL
  rw [sIx_none, sIx_none, List.drop_zero, Nat.sub_zero, List.take_of_length_le (Nat.le_refl _)]
end
end Mr

namespace MyLaw
open PySem PySem.Spec PyProof.Rows L2 Mr
def topS (i : Nat) : Stmt := PySem.Challenge.pw_bearerwise_k17_judging_packets_and_bills.main.body.getD i (.Pass ⟨0, 0, 0, 0⟩)
def w_order : Wd := ⟨"order", by decide +kernel⟩
def w_held : Wd := ⟨"held", by decide +kernel⟩
def w_missing : Wd := ⟨"missing", by decide +kernel⟩
def w_empty : Wd := ⟨"", by decide +kernel⟩
def w_metered : Wd := ⟨"metered", by decide +kernel⟩
def w_billed : Wd := ⟨"billed", by decide +kernel⟩
def w_open : Wd := ⟨"open", by decide +kernel⟩
def m_first_fault (went_in : (List (List Int))) (came_out : (List (List Int))) (bound : Int) (quiet : Bool) : Option Wd :=
  (if (!(decide ((came_out : (List (List Int))) = (cutL went_in none (some ((List.length came_out : Nat) : Int)))))) = true then
  (some w_order) else
  (lett ((((List.length went_in : Nat) : Int) - ((List.length came_out : Nat) : Int)) : Int) fun held_1 =>
  (if (decide (bound < held_1)) = true then
  (some w_held) else
  (if (quiet && (decide (0 < held_1))) = true then
  (some w_missing) else
  (some w_empty)))))
abbrev sp_first_fault (K : PySem.W.Frag) : Sp := SpM (fun x : ((List (List Int)) × (List (List Int)) × Int × Bool) => [aD K (Cd.d (x.1 : (List (List Int)))), aD K (Cd.d (x.2.1 : (List (List Int)))), aD K (Cd.d (x.2.2.1 : Int)), aD K (Cd.d (x.2.2.2 : Bool))]) (fun x => m_first_fault x.1 x.2.1 x.2.2.1 x.2.2.2) (fun x (r : Wd) => [none, none, none, none]) (fun _ r => aD K (Cd.d (r : Wd)))
abbrev s_first_fault : Stmt := topS 1
theorem sc_first_fault : FnScope ["went_in", "came_out", "bound", "quiet", "held"] ["went_in", "came_out", "bound", "quiet"] (defScope s_first_fault) := ⟨rfl, rfl, rfl, by decide +kernel, rfl, by decide +kernel, by decide +kernel⟩
set_option maxHeartbeats 4000000 in
theorem ok_first_fault {P : Program} {w : World} {K : PySem.W.Frag} {mg : Str → Option Value} {base : Heap} {f : Addr} {fd : FuncData} (F : Fun K "first_fault" "first_fault" s_first_fault f fd) (m_len : mg "len" = none) : FnOk P w K mg base CX0 1 f fd ["went_in", "came_out", "bound", "quiet"] (sp_first_fault K) :=
  fn_ok (k := 0) [false, false, false, false] F sc_first_fault rfl (fun _ => rfl) (fun _ _ => rfl) fun x vs cdv A outer s H E hv hr => by
    match x, vs, hv with
    | (went_in, came_out, bound, quiet), [pa0, pa1, pa2, pa3], _ =>
      have nd := sc_first_fault.nd
      show XG _ _ [some (aD K (Cd.d (went_in : (List (List Int))))), some (aD K (Cd.d (came_out : (List (List Int))))), some (aD K (Cd.d (bound : Int))), some (aD K (Cd.d (quiet : Bool))), none] (m_first_fault went_in came_out bound quiet) (oR fun r : Wd => [some (aD K (Cd.d (r : Wd))), none, none, none, none, none])
      unfold m_first_fault
      exact (xg_st [some (aD K (Cd.d (went_in : (List (List Int))))), some (aD K (Cd.d (came_out : (List (List Int))))), some (aD K (Cd.d (bound : Int))), some (aD K (Cd.d (quiet : Bool))), none] rfl (xg_ifR (u := []) (xt_k (xkc_ne (x := (came_out : (List (List Int)))) (y := ((cutL went_in none (some ((List.length came_out : Nat) : Int))) : (List (List Int)))) hr.units (xe_nm 1 rfl) (xc_slice (xs := went_in) (i := none) (j := (some ((List.length came_out : Nat) : Int))) (xe_nm 0 rfl) rfl (xc_len (xs := came_out) (xe_nm 1 rfl) rlD m_len) rlD) rdD (Rls.da (Rlm.ls rmL)))) (fun _ => (xg_ret (A := aD K (Cd.d (w_order : Wd))) xe_str (wk_k (wk_n (wk_n (wk_n (wk_n (wk_n wk_0)))))))) (fun _ => (xg_st [some (aD K (Cd.d (went_in : (List (List Int))))), some (aD K (Cd.d (came_out : (List (List Int))))), some (aD K (Cd.d (bound : Int))), some (aD K (Cd.d (quiet : Bool))), none] rfl (xg_lett fun held_1 hheld_1 =>
  (xg_asg 4 (A := aD K (Cd.d (held_1 : Int))) (xe_nv (v := ((((List.length went_in : Nat) : Int) - ((List.length came_out : Nat) : Int)) : Int)) (xe_sub (xc_len (xs := went_in) (xe_nm 0 rfl) rlD m_len) (xc_len (xs := came_out) (xe_nm 1 rfl) rlD m_len)) hheld_1) (xg_st [some (aD K (Cd.d (went_in : (List (List Int))))), some (aD K (Cd.d (came_out : (List (List Int))))), some (aD K (Cd.d (bound : Int))), some (aD K (Cd.d (quiet : Bool))), some (aD K (Cd.d (held_1 : Int)))] rfl (xg_ifR (u := []) (xt_k (xk_gt (xe_nm 4 rfl) (xe_nm 2 rfl))) (fun _ => (xg_ret (A := aD K (Cd.d (w_held : Wd))) xe_str (wk_k (wk_n (wk_n (wk_n (wk_n (wk_n wk_0)))))))) (fun _ => (xg_st [some (aD K (Cd.d (went_in : (List (List Int))))), some (aD K (Cd.d (came_out : (List (List Int))))), some (aD K (Cd.d (bound : Int))), some (aD K (Cd.d (quiet : Bool))), some (aD K (Cd.d (held_1 : Int)))] rfl (xg_ifR (u := []) (xt_w (xw_and (xt_v (xe_nm 3 rfl)) fun _ => (xw_and1 (xt_k (xk_gt (xe_nm 4 rfl) xe_int))))) (fun _ => (xg_ret (A := aD K (Cd.d (w_missing : Wd))) xe_str (wk_k (wk_n (wk_n (wk_n (wk_n (wk_n wk_0)))))))) (fun _ => (xg_ret (A := aD K (Cd.d (w_empty : Wd))) xe_str (wk_k (wk_n (wk_n (wk_n (wk_n (wk_n wk_0)))))))))))))))))))
def m_bill_fault (packets : (List (List Int))) (metered : Int) (billed : Int) (is_settled : Bool) : Option Wd :=
  (Option.bind (mapO (fun packet_2 : (List Int) => (some ((List.length packet_2 : Nat) : Int))) packets) fun ys_3 =>
  (if (!(decide ((metered : Int) = (List.sum ys_3)))) = true then
  (some w_metered) else
  (if (decide (metered < billed)) = true then
  (some w_billed) else
  (if (is_settled && (!(decide ((billed : Int) = metered)))) = true then
  (some w_open) else
  (some w_empty)))))
abbrev sp_bill_fault (K : PySem.W.Frag) : Sp := SpM (fun x : ((List (List Int)) × Int × Int × Bool) => [aD K (Cd.d (x.1 : (List (List Int)))), aD K (Cd.d (x.2.1 : Int)), aD K (Cd.d (x.2.2.1 : Int)), aD K (Cd.d (x.2.2.2 : Bool))]) (fun x => m_bill_fault x.1 x.2.1 x.2.2.1 x.2.2.2) (fun x (r : Wd) => [none, none, none, none]) (fun _ r => aD K (Cd.d (r : Wd)))
abbrev s_bill_fault : Stmt := topS 2
theorem sc_bill_fault : FnScope ["packets", "metered", "billed", "is_settled", "packet"] ["packets", "metered", "billed", "is_settled"] (defScope s_bill_fault) := ⟨rfl, rfl, rfl, by decide +kernel, rfl, by decide +kernel, by decide +kernel⟩
set_option maxHeartbeats 4000000 in
theorem ok_bill_fault {P : Program} {w : World} {K : PySem.W.Frag} {mg : Str → Option Value} {base : Heap} {f : Addr} {fd : FuncData} (F : Fun K "bill_fault" "bill_fault" s_bill_fault f fd) (m_len : mg "len" = none) (m_sum : mg "sum" = none) : FnOk P w K mg base CX0 1 f fd ["packets", "metered", "billed", "is_settled"] (sp_bill_fault K) :=
  fn_ok (k := 0) [false, false, false, false] F sc_bill_fault rfl (fun _ => rfl) (fun _ _ => rfl) fun x vs cdv A outer s H E hv hr => by
    match x, vs, hv with
    | (packets, metered, billed, is_settled), [pa0, pa1, pa2, pa3], _ =>
      have nd := sc_bill_fault.nd
      show XG _ _ [some (aD K (Cd.d (packets : (List (List Int))))), some (aD K (Cd.d (metered : Int))), some (aD K (Cd.d (billed : Int))), some (aD K (Cd.d (is_settled : Bool))), none] (m_bill_fault packets metered billed is_settled) (oR fun r : Wd => [some (aD K (Cd.d (r : Wd))), none, none, none, none, none])
      unfold m_bill_fault
      exact (xg_st [some (aD K (Cd.d (packets : (List (List Int))))), some (aD K (Cd.d (metered : Int))), some (aD K (Cd.d (billed : Int))), some (aD K (Cd.d (is_settled : Bool))), none] rfl (xg_bind fun ys_3 hys_3 =>
  (xg_ifR (u := []) (xt_k (xkc_ne (x := (metered : Int)) (y := ((List.sum ys_3) : Int)) hr.units (xe_nm 1 rfl) (xe_sum (ns := ys_3) rfl (xe_lc (xc_imp (xc_mapO 4 hys_3 (xi_list (xs := packets) (cv := Cd.d) (xe_nm 0 rfl)) trivial (Nat.le_of_ble_eq_true rfl) (el := fun y => aD K (Cd.d (y : Int))) (fun _ _ _ _ _ packet_2 => (xem_some (xc_len (xs := packet_2) (xe_nm 4 rfl) rlD m_len)))) (aLD_map Cd.d _)) rfl nd (blkOk_by (N := ["packets", "metered", "billed", "is_settled", "packet"]) (sc := defScope s_bill_fault) (by decide +kernel)) (fun _ _ _ _ _ => pg_name nd rfl (.inl rfl))) (Rlm.ls rmL) m_sum) rdD rdD)) (fun _ => (xg_ret (A := aD K (Cd.d (w_metered : Wd))) xe_str (wk_k (wk_n (wk_n (wk_n (wk_n (wk_n wk_0)))))))) (fun _ => (xg_st [some (aD K (Cd.d (packets : (List (List Int))))), some (aD K (Cd.d (metered : Int))), some (aD K (Cd.d (billed : Int))), some (aD K (Cd.d (is_settled : Bool))), none] rfl (xg_ifR (u := []) (xt_k (xk_gt (xe_nm 2 rfl) (xe_nm 1 rfl))) (fun _ => (xg_ret (A := aD K (Cd.d (w_billed : Wd))) xe_str (wk_k (wk_n (wk_n (wk_n (wk_n (wk_n wk_0)))))))) (fun _ => (xg_st [some (aD K (Cd.d (packets : (List (List Int))))), some (aD K (Cd.d (metered : Int))), some (aD K (Cd.d (billed : Int))), some (aD K (Cd.d (is_settled : Bool))), none] rfl (xg_ifR (u := []) (xt_w (xw_and (xt_v (xe_nm 3 rfl)) fun _ => (xw_and1 (xt_k (xkc_ne (x := (billed : Int)) (y := (metered : Int)) hr.units (xe_nm 2 rfl) (xe_nm 1 rfl) rdD rdD))))) (fun _ => (xg_ret (A := aD K (Cd.d (w_open : Wd))) xe_str (wk_k (wk_n (wk_n (wk_n (wk_n (wk_n wk_0)))))))) (fun _ => (xg_ret (A := aD K (Cd.d (w_empty : Wd))) xe_str (wk_k (wk_n (wk_n (wk_n (wk_n (wk_n wk_0)))))))))))))))))
def m_l_next (l_tape : ((List Int) × Int × Int × Int)) (l_many : Int) : Option (Int × ((List Int) × Int × Int × Int)) :=
  (if (decide (0 < l_tape.2.2.1)) = true then
  (Option.bind (divM l_tape.2.2.1 l_many) fun q_4 =>
  (Option.bind (modM l_tape.2.2.1 l_many) fun r_5 =>
  (some (r_5, (l_tape.1, l_tape.2.1, q_4, l_tape.2.2.2))))) else
  (Option.bind (if (decide (l_tape.2.1 < ((List.length l_tape.1 : Nat) : Int))) = true then
  (Option.bind (atI l_tape.1 l_tape.2.1) fun x_9 =>
  (lett ((if x_9 < 0 then -x_9 else x_9) : Int) fun l_cell_10 =>
  (some (l_cell_10, (l_tape.1, (l_tape.2.1 + 1), l_tape.2.2.1, l_tape.2.2.2))))) else
  (some (0, l_tape))) fun s_8 =>
  (if (decide (1000000000000000000 ≤ s_8.1)) = true then
  (Option.bind (divM s_8.1 l_many) fun q_11 =>
  (Option.bind (modM s_8.1 l_many) fun r_12 =>
  (some (r_12, (s_8.2.1, s_8.2.2.1, q_11, s_8.2.2.2.2))))) else
  (lett (((((s_8.2.2.2.2 * 48271) + (s_8.1 * 69621)) + 11) % 2147483647) : Int) fun e_13 =>
  (Option.bind (modM ((((((s_8.2.1, s_8.2.2.1, s_8.2.2.2.1, e_13)).2.2.2) * 16807) % 2147483647) / 7) l_many) fun r_14 =>
  (some (r_14, (s_8.2.1, s_8.2.2.1, s_8.2.2.2.1, e_13))))))))
abbrev sp_l_next (K : PySem.W.Frag) : Sp := SpM (fun x : (((List Int) × Int × Int × Int) × Int) => [(aL [aD K (Cd.d (x.1.1 : (List Int))), aD K (Cd.d (x.1.2.1 : Int)), aD K (Cd.d (x.1.2.2.1 : Int)), aD K (Cd.d (x.1.2.2.2 : Int))]), aD K (Cd.d (x.2 : Int))]) (fun x => m_l_next x.1 x.2) (fun x (r : (Int × ((List Int) × Int × Int × Int))) => [some (aL [aD K (Cd.d (r.2.1 : (List Int))), aD K (Cd.d (r.2.2.1 : Int)), aD K (Cd.d (r.2.2.2.1 : Int)), aD K (Cd.d (r.2.2.2.2 : Int))]), none]) (fun _ r => aD K (Cd.d (r.1 : Int)))
abbrev s_l_next : Stmt := topS 4
theorem sc_l_next : FnScope ["_law_tape", "_law_many", "_law_rest", "_law_cell"] ["_law_tape", "_law_many"] (defScope s_l_next) := ⟨rfl, rfl, rfl, by decide +kernel, rfl, by decide +kernel, by decide +kernel⟩
set_option maxHeartbeats 4000000 in
theorem ok_l_next {P : Program} {w : World} {K : PySem.W.Frag} {mg : Str → Option Value} {base : Heap} {f : Addr} {fd : FuncData} (F : Fun K "_law_next" "_law_next" s_l_next f fd) (m_abs : mg "abs" = none) (m_int : mg "int" = none) (m_len : mg "len" = none) : FnOk P w K mg base CX0 1 f fd ["_law_tape", "_law_many"] (sp_l_next K) :=
  fn_ok (k := 0) [true, false] F sc_l_next rfl (fun _ => rfl) (fun _ _ => rfl) fun x vs cdv A outer s H E hv hr => by
    match x, vs, hv with
    | (l_tape, l_many), [pa0, pa1], _ =>
      have nd := sc_l_next.nd
      show XG _ _ [some (pin pa0 (aL [aD K (Cd.d (l_tape.1 : (List Int))), aD K (Cd.d (l_tape.2.1 : Int)), aD K (Cd.d (l_tape.2.2.1 : Int)), aD K (Cd.d (l_tape.2.2.2 : Int))])), some (aD K (Cd.d (l_many : Int))), none, none] (m_l_next l_tape l_many) (oR fun r : (Int × ((List Int) × Int × Int × Int)) => [some (aD K (Cd.d (r.1 : Int))), some (pin pa0 (aL [aD K (Cd.d (r.2.1 : (List Int))), aD K (Cd.d (r.2.2.1 : Int)), aD K (Cd.d (r.2.2.2.1 : Int)), aD K (Cd.d (r.2.2.2.2 : Int))])), none, none, none])
      unfold m_l_next
      exact (xg_st [some (pin pa0 (aL [aD K (Cd.d (l_tape.1 : (List Int))), aD K (Cd.d (l_tape.2.1 : Int)), aD K (Cd.d (l_tape.2.2.1 : Int)), aD K (Cd.d (l_tape.2.2.2 : Int))])), some (aD K (Cd.d (l_many : Int))), none, none] rfl (xg_asg 2 (A := aD K (Cd.d (l_tape.2.2.1 : Int))) (xe_ixO 0 (xe_nmV 0 rfl) xe_int rfl rfl rfl) (xg_st [some (pin pa0 (aL [aD K (Cd.d (l_tape.1 : (List Int))), aD K (Cd.d (l_tape.2.1 : Int)), aD K (Cd.d (l_tape.2.2.1 : Int)), aD K (Cd.d (l_tape.2.2.2 : Int))])), some (aD K (Cd.d (l_many : Int))), some (aD K (Cd.d (l_tape.2.2.1 : Int))), none] rfl (xg_ifR (u := []) (xt_k (xk_gt (xe_nm 2 rfl) xe_int)) (fun _ => (xg_st [some (pin pa0 (aL [aD K (Cd.d (l_tape.1 : (List Int))), aD K (Cd.d (l_tape.2.1 : Int)), aD K (Cd.d (l_tape.2.2.1 : Int)), aD K (Cd.d (l_tape.2.2.2 : Int))])), some (aD K (Cd.d (l_many : Int))), some (aD K (Cd.d (l_tape.2.2.1 : Int))), none] rfl (xg_bind fun q_4 hq_4 =>
  (xg_tgt (A := aD K (Cd.d (q_4 : Int))) (xe_isI (xe_div (divM_eq hq_4).1 (xe_nm 2 rfl) (xe_nm 1 rfl)) (divM_eq hq_4).2) (xp_setL 0 (xe_nmV 0 rfl) xe_int rfl rfl) (xg_bind fun r_5 hr_5 =>
  (xg_ret (A := aD K (Cd.d (r_5 : Int))) (xe_isI (xe_mod (modM_eq hr_5).1 (xe_int1 (xe_nm 2 rfl) m_int) (xe_nm 1 rfl)) (modM_eq hr_5).2) (wk_k (wk_k (wk_n (wk_n (wk_n wk_0))))))))))) (fun _ => (xg_st [some (pin pa0 (aL [aD K (Cd.d (l_tape.1 : (List Int))), aD K (Cd.d (l_tape.2.1 : Int)), aD K (Cd.d (l_tape.2.2.1 : Int)), aD K (Cd.d (l_tape.2.2.2 : Int))])), some (aD K (Cd.d (l_many : Int))), some (aD K (Cd.d (l_tape.2.2.1 : Int))), none] rfl (xg_asg 3 (A := aD K (Cd.d (0 : Int))) xe_int (xg_st [some (pin pa0 (aL [aD K (Cd.d (l_tape.1 : (List Int))), aD K (Cd.d (l_tape.2.1 : Int)), aD K (Cd.d (l_tape.2.2.1 : Int)), aD K (Cd.d (l_tape.2.2.2 : Int))])), some (aD K (Cd.d (l_many : Int))), some (aD K (Cd.d (l_tape.2.2.1 : Int))), some (aD K (Cd.d (0 : Int)))] rfl (xg_if (N := (fun s_8 : (Int × ((List Int) × Int × Int × Int)) => [some (pin pa0 (aL [aD K (Cd.d (s_8.2.1 : (List Int))), aD K (Cd.d (s_8.2.2.1 : Int)), aD K (Cd.d (s_8.2.2.2.1 : Int)), aD K (Cd.d (s_8.2.2.2.2 : Int))])), some (aD K (Cd.d (l_many : Int))), some (aD K (Cd.d (l_tape.2.2.1 : Int))), some (aD K (Cd.d (s_8.1 : Int)))])) (xt_k (xk_lt (xe_ixO 0 (xe_nmV 0 rfl) xe_int rfl rfl rfl) (xc_len (xs := l_tape.1) (xe_ixO 0 (xe_nmV 0 rfl) xe_int rfl rfl rfl) rlD m_len))) (fun _ => (xg_st [some (pin pa0 (aL [aD K (Cd.d (l_tape.1 : (List Int))), aD K (Cd.d (l_tape.2.1 : Int)), aD K (Cd.d (l_tape.2.2.1 : Int)), aD K (Cd.d (l_tape.2.2.2 : Int))])), some (aD K (Cd.d (l_many : Int))), some (aD K (Cd.d (l_tape.2.2.1 : Int))), some (aD K (Cd.d (0 : Int)))] rfl (xg_bind fun x_9 hx_9 =>
  (xg_lett fun l_cell_10 hl_cell_10 =>
  (xg_asg 3 (A := aD K (Cd.d (l_cell_10 : Int))) (xe_nv (v := ((if x_9 < 0 then -x_9 else x_9) : Int)) (xe_abs (xc_ix (xs := l_tape.1) (xe_ixO 0 (xe_nmV 0 rfl) xe_int rfl rfl rfl) (xe_ixO 0 (xe_nmV 0 rfl) xe_int rfl rfl rfl) rlD hx_9) m_abs) hl_cell_10) (xg_st [some (pin pa0 (aL [aD K (Cd.d (l_tape.1 : (List Int))), aD K (Cd.d (l_tape.2.1 : Int)), aD K (Cd.d (l_tape.2.2.1 : Int)), aD K (Cd.d (l_tape.2.2.2 : Int))])), some (aD K (Cd.d (l_many : Int))), some (aD K (Cd.d (l_tape.2.2.1 : Int))), some (aD K (Cd.d (l_cell_10 : Int)))] rfl (xg_augL 0 ip_add (xe_nmV 0 rfl) xe_int rfl rfl rfl xe_int rfl (xg_nilS (wk_k (wk_k (wk_k (wk_k wk_0)))))))))))) (fun _ => (xg_nilS (wk_k (wk_k (wk_k (wk_k wk_0)))))) (fun s_8 => (xg_st [some (pin pa0 (aL [aD K (Cd.d (s_8.2.1 : (List Int))), aD K (Cd.d (s_8.2.2.1 : Int)), aD K (Cd.d (s_8.2.2.2.1 : Int)), aD K (Cd.d (s_8.2.2.2.2 : Int))])), some (aD K (Cd.d (l_many : Int))), some (aD K (Cd.d (l_tape.2.2.1 : Int))), some (aD K (Cd.d (s_8.1 : Int)))] rfl (xg_ifR (u := []) (xt_k (xk_ge (xe_nm 3 rfl) (xe_isI (xe_pow (by decide) xe_int xe_int) (by decide)))) (fun _ => (xg_st [some (pin pa0 (aL [aD K (Cd.d (s_8.2.1 : (List Int))), aD K (Cd.d (s_8.2.2.1 : Int)), aD K (Cd.d (s_8.2.2.2.1 : Int)), aD K (Cd.d (s_8.2.2.2.2 : Int))])), some (aD K (Cd.d (l_many : Int))), some (aD K (Cd.d (l_tape.2.2.1 : Int))), some (aD K (Cd.d (s_8.1 : Int)))] rfl (xg_bind fun q_11 hq_11 =>
  (xg_tgt (A := aD K (Cd.d (q_11 : Int))) (xe_isI (xe_div (divM_eq hq_11).1 (xe_nm 3 rfl) (xe_nm 1 rfl)) (divM_eq hq_11).2) (xp_setL 0 (xe_nmV 0 rfl) xe_int rfl rfl) (xg_bind fun r_12 hr_12 =>
  (xg_ret (A := aD K (Cd.d (r_12 : Int))) (xe_isI (xe_mod (modM_eq hr_12).1 (xe_int1 (xe_nm 3 rfl) m_int) (xe_nm 1 rfl)) (modM_eq hr_12).2) (wk_k (wk_k (wk_n (wk_n (wk_n wk_0))))))))))) (fun _ => (xg_st [some (pin pa0 (aL [aD K (Cd.d (s_8.2.1 : (List Int))), aD K (Cd.d (s_8.2.2.1 : Int)), aD K (Cd.d (s_8.2.2.2.1 : Int)), aD K (Cd.d (s_8.2.2.2.2 : Int))])), some (aD K (Cd.d (l_many : Int))), some (aD K (Cd.d (l_tape.2.2.1 : Int))), some (aD K (Cd.d (s_8.1 : Int)))] rfl (xg_lett fun e_13 he_13 =>
  (xg_tgt (A := aD K (Cd.d (e_13 : Int))) (xe_nv (v := (((((s_8.2.2.2.2 * 48271) + (s_8.1 * 69621)) + 11) % 2147483647) : Int)) (xe_mod (by decide) (xe_int1 (xe_add (xe_add (xe_mul (mulR 48271) (xe_ixO 0 (xe_nmV 0 rfl) xe_int rfl rfl rfl) xe_int) (xe_mul (mulR 69621) (xe_nm 3 rfl) xe_int)) xe_int) m_int) xe_int) he_13) (xp_setL 0 (xe_nmV 0 rfl) xe_int rfl rfl) (xg_bind fun r_14 hr_14 =>
  (xg_ret (A := aD K (Cd.d (r_14 : Int))) (xe_isI (xe_mod (modM_eq hr_14).1 (xe_int1 (xe_div (by decide) (xe_mod (by decide) (xe_mul (mulR 16807) (xe_ixO 0 (xe_nmV 0 rfl) xe_int rfl rfl rfl) xe_int) xe_int) xe_int) m_int) (xe_nm 1 rfl)) (modM_eq hr_14).2) (wk_k (wk_k (wk_n (wk_n (wk_n wk_0)))))))))))))))))))))))
def m_l_out (l_tape : ((List Int) × Int × Int × Int)) (l_went_in : (List (List Int))) : Option ((List (List Int)) × ((List Int) × Int × Int × Int)) :=
  (Option.bind (m_l_next l_tape (((List.length l_went_in : Nat) : Int) + 1)) fun v_15 =>
  (Option.bind (mapO (fun l_packet_16 : (List Int) => (some l_packet_16)) (cutL l_went_in none (some v_15.1))) fun ys_17 =>
  (Option.bind (m_l_next v_15.2 9) fun v_19 =>
  (if ((decide ((ys_17 : (List (List Int))) = [])) || (decide (v_19.1 < 4))) = true then
  (some (ys_17, v_19.2)) else
  (Option.bind (m_l_next v_19.2 ((List.length ys_17 : Nat) : Int)) fun v_20 =>
  (Option.bind (if (decide ((v_19.1 : Int) = 4)) = true then
  (Option.bind (atI ys_17 v_20.1) fun x_83 =>
  (Option.bind (guardO (List.length x_83 + List.length ([7]) ≤ 1000000)) fun g_84 =>
  (Option.bind (ixN (List.length ys_17) v_20.1) fun j_85 =>
  (lett ((x_83 ++ ([7])) : (List Int)) fun e_86 =>
  (some ((List.set ys_17 j_85 e_86), v_20.2)))))) else
  (Option.bind (if (decide ((v_19.1 : Int) = 5)) = true then
  (Option.bind (popL ys_17 v_20.1) fun p_116 =>
  (some (p_116.2, v_20.2))) else
  (Option.bind (if (decide ((v_19.1 : Int) = 6)) = true then
  (Option.bind (atI ys_17 v_20.1) fun x_131 =>
  (Option.bind (insL ys_17 v_20.1 x_131) fun p_132 =>
  (some (p_132, v_20.2)))) else
  (Option.bind (if (decide ((v_19.1 : Int) = 7)) = true then
  (Option.bind (m_l_next v_20.2 4) fun v_139 =>
  (Option.bind (guardO (List.length ys_17 < 1000000)) fun g_140 =>
  (some ((ys_17 ++ [[v_139.1]]), v_139.2)))) else
  (Option.bind (m_l_next v_20.2 ((List.length ys_17 : Nat) : Int)) fun v_141 =>
  (Option.bind (atI ys_17 v_141.1) fun x_142 =>
  (Option.bind (ixN (List.length ys_17) v_20.1) fun j_143 =>
  (some ((List.set ys_17 j_143 x_142), v_141.2)))))) fun s_138 =>
  (some (s_138.1, s_138.2)))) fun s_130 =>
  (some (s_130.1, s_130.2)))) fun s_115 =>
  (some (s_115.1, s_115.2)))) fun s_82 =>
  (some (s_82.1, s_82.2))))))))
abbrev sp_l_out (K : PySem.W.Frag) : Sp := SpM (fun x : (((List Int) × Int × Int × Int) × (List (List Int))) => [(aL [aD K (Cd.d (x.1.1 : (List Int))), aD K (Cd.d (x.1.2.1 : Int)), aD K (Cd.d (x.1.2.2.1 : Int)), aD K (Cd.d (x.1.2.2.2 : Int))]), aD K (Cd.d (x.2 : (List (List Int))))]) (fun x => m_l_out x.1 x.2) (fun x (r : ((List (List Int)) × ((List Int) × Int × Int × Int))) => [some (aL [aD K (Cd.d (r.2.1 : (List Int))), aD K (Cd.d (r.2.2.1 : Int)), aD K (Cd.d (r.2.2.2.1 : Int)), aD K (Cd.d (r.2.2.2.2 : Int))]), none]) (fun _ r => aD K (Cd.d (r.1 : (List (List Int)))))
abbrev s_l_out : Stmt := topS 5
theorem sc_l_out : FnScope ["_law_tape", "_law_went_in", "_law_out_here", "_law_kind", "_law_place", "_law_packet"] ["_law_tape", "_law_went_in"] (defScope s_l_out) := ⟨rfl, rfl, rfl, by decide +kernel, rfl, by decide +kernel, by decide +kernel⟩
set_option maxHeartbeats 4000000 in
theorem ok_l_out {P : Program} {w : World} {K : PySem.W.Frag} {mg : Str → Option Value} {base : Heap} {f : Addr} {fd : FuncData} (F : Fun K "_law_out" "_law_out" s_l_out f fd) (m_len : mg "len" = none) (m_list : mg "list" = none) (c_l_next : Cal P w K mg base 1 "_law_next" (sp_l_next K)) : FnOk P w K mg base CX0 2 f fd ["_law_tape", "_law_went_in"] (sp_l_out K) :=
  fn_ok (k := 1) [true, false] F sc_l_out rfl (fun _ => rfl) (fun _ _ => rfl) fun x vs cdv A outer s H E hv hr => by
    match x, vs, hv with
    | (l_tape, l_went_in), [pa0, pa1], _ =>
      have nd := sc_l_out.nd
      show XG _ _ [some (pin pa0 (aL [aD K (Cd.d (l_tape.1 : (List Int))), aD K (Cd.d (l_tape.2.1 : Int)), aD K (Cd.d (l_tape.2.2.1 : Int)), aD K (Cd.d (l_tape.2.2.2 : Int))])), some (aD K (Cd.d (l_went_in : (List (List Int))))), none, none, none, none] (m_l_out l_tape l_went_in) (oR fun r : ((List (List Int)) × ((List Int) × Int × Int × Int)) => [some (aD K (Cd.d (r.1 : (List (List Int))))), some (pin pa0 (aL [aD K (Cd.d (r.2.1 : (List Int))), aD K (Cd.d (r.2.2.1 : Int)), aD K (Cd.d (r.2.2.2.1 : Int)), aD K (Cd.d (r.2.2.2.2 : Int))])), none, none, none, none, none])
      unfold m_l_out
      exact (xg_st [some (pin pa0 (aL [aD K (Cd.d (l_tape.1 : (List Int))), aD K (Cd.d (l_tape.2.1 : Int)), aD K (Cd.d (l_tape.2.2.1 : Int)), aD K (Cd.d (l_tape.2.2.2 : Int))])), some (aD K (Cd.d (l_went_in : (List (List Int))))), none, none, none, none] rfl (xg_bind fun v_15 hv_15 =>
  (xg_bind fun ys_17 hys_17 =>
  (xg_asgLcP (j := 2) (xc_imp (xc_mapO 5 hys_17 (xi_list (xs := (cutL l_went_in none (some v_15.1))) (cv := Cd.d) (xe_frz (xc_slice (xs := l_went_in) (i := none) (j := (some v_15.1)) (xe_nm 1 rfl) rfl (xe_call (xx := (l_tape, (((List.length l_went_in : Nat) : Int) + 1))) c_l_next (hr.mono (by decide)) hv_15 (xl_lend 0 0 (xl_of (xa_cons (xe_nmV 0 rfl) (xa_cons (xe_add (xc_len (xs := l_went_in) (xe_nm 1 rfl) rlD m_len) xe_int) xa_nil))) rfl rfl) rfl (by simp) (by simp) (List.forall_mem_cons.mpr ⟨rfl, (List.forall_mem_nil _)⟩) rfl rfl) rlD))) trivial (Nat.le_of_ble_eq_true rfl) (el := fun y => aD K (Cd.d (y : (List Int)))) (fun _ _ _ _ _ l_packet_16 => (xem_some (xe_frz (xe_list (xe_nm 5 rfl) rlD m_list))))) (aLD_map Cd.d _)) rfl rfl (sw_true rfl rfl rfl (by decide +kernel)) (fun pv_18 => (xg_st [some (pin pa0 (aL [aD K (Cd.d (v_15.2.1 : (List Int))), aD K (Cd.d (v_15.2.2.1 : Int)), aD K (Cd.d (v_15.2.2.2.1 : Int)), aD K (Cd.d (v_15.2.2.2.2 : Int))])), some (aD K (Cd.d (l_went_in : (List (List Int))))), some (pin pv_18 (aLD K (List.map Cd.d (ys_17 : List (List Int))))), none, none, none] rfl (xg_bind fun v_19 hv_19 =>
  (xg_asg 3 (A := aD K (Cd.d (v_19.1 : Int))) (xe_call (xx := (v_15.2, 9)) c_l_next (hr.mono (by decide)) hv_19 (xl_lend 0 0 (xl_of (xa_cons (xe_nmV 0 rfl) (xa_cons xe_int xa_nil))) rfl rfl) rfl (by simp) (by simp) (List.forall_mem_cons.mpr ⟨rfl, (List.forall_mem_nil _)⟩) rfl rfl) (xg_st [some (pin pa0 (aL [aD K (Cd.d (v_19.2.1 : (List Int))), aD K (Cd.d (v_19.2.2.1 : Int)), aD K (Cd.d (v_19.2.2.2.1 : Int)), aD K (Cd.d (v_19.2.2.2.2 : Int))])), some (aD K (Cd.d (l_went_in : (List (List Int))))), some (pin pv_18 (aLD K (List.map Cd.d (ys_17 : List (List Int))))), some (aD K (Cd.d (v_19.1 : Int))), none, none] rfl (xg_ifR (u := []) (xt_w (xw_or (xt_k (xkc_eq (x := (ys_17 : (List (List Int)))) (y := ([] : (List (List Int)))) hr.units (xe_nmV 2 rfl) (xe_lst xa_nil (Nat.le_of_ble_eq_true rfl)) (Rls.da (Rlm.ls (rmO 2 rfl))) (Rls.da (Rlm.ls (rmL (ds := [])))))) fun _ => (xw_or1 (xt_k (xk_lt (xe_nm 3 rfl) xe_int))))) (fun _ => (xg_freeze 2 rfl (xg_ret (A := aD K (Cd.d (ys_17 : (List (List Int))))) (xe_nm 2 rfl) (wk_k (wk_k (wk_n (wk_n (wk_n (wk_n (wk_n wk_0)))))))))) (fun _ => (xg_st [some (pin pa0 (aL [aD K (Cd.d (v_19.2.1 : (List Int))), aD K (Cd.d (v_19.2.2.1 : Int)), aD K (Cd.d (v_19.2.2.2.1 : Int)), aD K (Cd.d (v_19.2.2.2.2 : Int))])), some (aD K (Cd.d (l_went_in : (List (List Int))))), some (pin pv_18 (aLD K (List.map Cd.d (ys_17 : List (List Int))))), some (aD K (Cd.d (v_19.1 : Int))), none, none] rfl (xg_bind fun v_20 hv_20 =>
  (xg_asg 4 (A := aD K (Cd.d (v_20.1 : Int))) (xe_call (xx := (v_19.2, ((List.length ys_17 : Nat) : Int))) c_l_next (hr.mono (by decide)) hv_20 (xl_lend 0 0 (xl_of (xa_cons (xe_nmV 0 rfl) (xa_cons (xc_len (xs := ys_17) (xe_nmV 2 rfl) (Rlm.ls (rmO 2 rfl)) m_len) xa_nil))) rfl rfl) rfl (by simp) (by simp) (List.forall_mem_cons.mpr ⟨rfl, (List.forall_mem_nil _)⟩) rfl rfl) (xg_st [some (pin pa0 (aL [aD K (Cd.d (v_20.2.1 : (List Int))), aD K (Cd.d (v_20.2.2.1 : Int)), aD K (Cd.d (v_20.2.2.2.1 : Int)), aD K (Cd.d (v_20.2.2.2.2 : Int))])), some (aD K (Cd.d (l_went_in : (List (List Int))))), some (pin pv_18 (aLD K (List.map Cd.d (ys_17 : List (List Int))))), some (aD K (Cd.d (v_19.1 : Int))), some (aD K (Cd.d (v_20.1 : Int))), none] rfl (xg_if (N := (fun s_82 : ((List (List Int)) × ((List Int) × Int × Int × Int)) => [some (pin pa0 (aL [aD K (Cd.d (s_82.2.1 : (List Int))), aD K (Cd.d (s_82.2.2.1 : Int)), aD K (Cd.d (s_82.2.2.2.1 : Int)), aD K (Cd.d (s_82.2.2.2.2 : Int))])), some (aD K (Cd.d (l_went_in : (List (List Int))))), some (pin pv_18 (aLD K (List.map Cd.d (s_82.1 : List (List Int))))), some (aD K (Cd.d (v_19.1 : Int))), some (aD K (Cd.d (v_20.1 : Int))), none])) (xt_k (xkc_eq (x := (v_19.1 : Int)) (y := (4 : Int)) hr.units (xe_nm 3 rfl) xe_int rdD rdD)) (fun _ => (xg_st [some (pin pa0 (aL [aD K (Cd.d (v_20.2.1 : (List Int))), aD K (Cd.d (v_20.2.2.1 : Int)), aD K (Cd.d (v_20.2.2.2.1 : Int)), aD K (Cd.d (v_20.2.2.2.2 : Int))])), some (aD K (Cd.d (l_went_in : (List (List Int))))), some (pin pv_18 (aLD K (List.map Cd.d (ys_17 : List (List Int))))), some (aD K (Cd.d (v_19.1 : Int))), some (aD K (Cd.d (v_20.1 : Int))), none] rfl (xg_bind fun x_83 hx_83 =>
  (xg_bind fun g_84 hg_84 =>
  (xg_bind fun j_85 hj_85 =>
  (xg_lett fun e_86 he_86 =>
  (xg_tgt (A := aD K (Cd.d (e_86 : (List Int)))) (xe_nv (v := ((x_83 ++ ([7])) : (List Int))) (xe_frz (xc_cat (xs := x_83) (ys := [7]) (xc_ix (xs := ys_17) (xe_nmV 2 rfl) (xe_nm 4 rfl) (Rlm.ls (rmO 2 rfl)) hx_83) (xe_lstD (xs := ([7] : List Int)) (xa_cons xe_int xa_nil) (Nat.le_of_ble_eq_true rfl)) rmD rmL (sz_of (guardO_eq hg_84)))) he_86) (xp_setD (cv := Cd.d) (xs := ys_17) 2 (xe_nmV 2 rfl) (xe_nm 4 rfl) rfl hj_85) (xg_nilS (wk_k (wk_k (wk_k (wk_k (wk_k (wk_n wk_0)))))))))))))) (fun _ => (xg_st [some (pin pa0 (aL [aD K (Cd.d (v_20.2.1 : (List Int))), aD K (Cd.d (v_20.2.2.1 : Int)), aD K (Cd.d (v_20.2.2.2.1 : Int)), aD K (Cd.d (v_20.2.2.2.2 : Int))])), some (aD K (Cd.d (l_went_in : (List (List Int))))), some (pin pv_18 (aLD K (List.map Cd.d (ys_17 : List (List Int))))), some (aD K (Cd.d (v_19.1 : Int))), some (aD K (Cd.d (v_20.1 : Int))), none] rfl (xg_if (N := (fun s_115 : ((List (List Int)) × ((List Int) × Int × Int × Int)) => [some (pin pa0 (aL [aD K (Cd.d (s_115.2.1 : (List Int))), aD K (Cd.d (s_115.2.2.1 : Int)), aD K (Cd.d (s_115.2.2.2.1 : Int)), aD K (Cd.d (s_115.2.2.2.2 : Int))])), some (aD K (Cd.d (l_went_in : (List (List Int))))), some (pin pv_18 (aLD K (List.map Cd.d (s_115.1 : List (List Int))))), some (aD K (Cd.d (v_19.1 : Int))), some (aD K (Cd.d (v_20.1 : Int))), none])) (xt_k (xkc_eq (x := (v_19.1 : Int)) (y := (5 : Int)) hr.units (xe_nm 3 rfl) xe_int rdD rdD)) (fun _ => (xg_st [some (pin pa0 (aL [aD K (Cd.d (v_20.2.1 : (List Int))), aD K (Cd.d (v_20.2.2.1 : Int)), aD K (Cd.d (v_20.2.2.2.1 : Int)), aD K (Cd.d (v_20.2.2.2.2 : Int))])), some (aD K (Cd.d (l_went_in : (List (List Int))))), some (pin pv_18 (aLD K (List.map Cd.d (ys_17 : List (List Int))))), some (aD K (Cd.d (v_19.1 : Int))), some (aD K (Cd.d (v_20.1 : Int))), none] rfl (xg_bind fun p_116 hp_116 =>
  (xg_expr (xe_popAt (cv := Cd.d) (xs := ys_17) 2 hp_116 (xe_nmV 2 rfl) rfl (xe_nm 4 rfl) rfl) (xg_nilS (wk_k (wk_k (wk_k (wk_k (wk_k (wk_n wk_0))))))))))) (fun _ => (xg_st [some (pin pa0 (aL [aD K (Cd.d (v_20.2.1 : (List Int))), aD K (Cd.d (v_20.2.2.1 : Int)), aD K (Cd.d (v_20.2.2.2.1 : Int)), aD K (Cd.d (v_20.2.2.2.2 : Int))])), some (aD K (Cd.d (l_went_in : (List (List Int))))), some (pin pv_18 (aLD K (List.map Cd.d (ys_17 : List (List Int))))), some (aD K (Cd.d (v_19.1 : Int))), some (aD K (Cd.d (v_20.1 : Int))), none] rfl (xg_if (N := (fun s_130 : ((List (List Int)) × ((List Int) × Int × Int × Int)) => [some (pin pa0 (aL [aD K (Cd.d (s_130.2.1 : (List Int))), aD K (Cd.d (s_130.2.2.1 : Int)), aD K (Cd.d (s_130.2.2.2.1 : Int)), aD K (Cd.d (s_130.2.2.2.2 : Int))])), some (aD K (Cd.d (l_went_in : (List (List Int))))), some (pin pv_18 (aLD K (List.map Cd.d (s_130.1 : List (List Int))))), some (aD K (Cd.d (v_19.1 : Int))), some (aD K (Cd.d (v_20.1 : Int))), none])) (xt_k (xkc_eq (x := (v_19.1 : Int)) (y := (6 : Int)) hr.units (xe_nm 3 rfl) xe_int rdD rdD)) (fun _ => (xg_st [some (pin pa0 (aL [aD K (Cd.d (v_20.2.1 : (List Int))), aD K (Cd.d (v_20.2.2.1 : Int)), aD K (Cd.d (v_20.2.2.2.1 : Int)), aD K (Cd.d (v_20.2.2.2.2 : Int))])), some (aD K (Cd.d (l_went_in : (List (List Int))))), some (pin pv_18 (aLD K (List.map Cd.d (ys_17 : List (List Int))))), some (aD K (Cd.d (v_19.1 : Int))), some (aD K (Cd.d (v_20.1 : Int))), none] rfl (xg_bind fun x_131 hx_131 =>
  (xg_bind fun p_132 hp_132 =>
  (xg_expr (xe_insertD (cv := Cd.d) (xs := ys_17) (x := x_131) 2 hp_132 (xe_nmV 2 rfl) rfl (xe_nm 4 rfl) (xe_frz (xe_list (xc_ix (xs := ys_17) (xe_nmV 2 rfl) (xe_nm 4 rfl) (Rlm.ls (rmO 2 rfl)) hx_131) rlD m_list)) rfl) (xg_nilS (wk_k (wk_k (wk_k (wk_k (wk_k (wk_n wk_0)))))))))))) (fun _ => (xg_st [some (pin pa0 (aL [aD K (Cd.d (v_20.2.1 : (List Int))), aD K (Cd.d (v_20.2.2.1 : Int)), aD K (Cd.d (v_20.2.2.2.1 : Int)), aD K (Cd.d (v_20.2.2.2.2 : Int))])), some (aD K (Cd.d (l_went_in : (List (List Int))))), some (pin pv_18 (aLD K (List.map Cd.d (ys_17 : List (List Int))))), some (aD K (Cd.d (v_19.1 : Int))), some (aD K (Cd.d (v_20.1 : Int))), none] rfl (xg_if (N := (fun s_138 : ((List (List Int)) × ((List Int) × Int × Int × Int)) => [some (pin pa0 (aL [aD K (Cd.d (s_138.2.1 : (List Int))), aD K (Cd.d (s_138.2.2.1 : Int)), aD K (Cd.d (s_138.2.2.2.1 : Int)), aD K (Cd.d (s_138.2.2.2.2 : Int))])), some (aD K (Cd.d (l_went_in : (List (List Int))))), some (pin pv_18 (aLD K (List.map Cd.d (s_138.1 : List (List Int))))), some (aD K (Cd.d (v_19.1 : Int))), some (aD K (Cd.d (v_20.1 : Int))), none])) (xt_k (xkc_eq (x := (v_19.1 : Int)) (y := (7 : Int)) hr.units (xe_nm 3 rfl) xe_int rdD rdD)) (fun _ => (xg_st [some (pin pa0 (aL [aD K (Cd.d (v_20.2.1 : (List Int))), aD K (Cd.d (v_20.2.2.1 : Int)), aD K (Cd.d (v_20.2.2.2.1 : Int)), aD K (Cd.d (v_20.2.2.2.2 : Int))])), some (aD K (Cd.d (l_went_in : (List (List Int))))), some (pin pv_18 (aLD K (List.map Cd.d (ys_17 : List (List Int))))), some (aD K (Cd.d (v_19.1 : Int))), some (aD K (Cd.d (v_20.1 : Int))), none] rfl (xg_bind fun v_139 hv_139 =>
  (xg_bind fun g_140 hg_140 =>
  (xg_expr (xe_appendD (cv := Cd.d) (xs := ys_17) (x := [v_139.1]) 2 (xe_nmV 2 rfl) rfl (xe_frz (xe_lstD (xs := ([v_139.1] : List Int)) (xa_cons (xe_call (xx := (v_20.2, 4)) c_l_next (hr.mono (by decide)) hv_139 (xl_lend 0 0 (xl_of (xa_cons (xe_nmV 0 rfl) (xa_cons xe_int xa_nil))) rfl rfl) rfl (by simp) (by simp) (List.forall_mem_cons.mpr ⟨rfl, (List.forall_mem_nil _)⟩) rfl rfl) xa_nil) (Nat.le_of_ble_eq_true rfl))) rfl (sz_lt (guardO_eq hg_140))) (xg_nilS (wk_k (wk_k (wk_k (wk_k (wk_k (wk_n wk_0)))))))))))) (fun _ => (xg_st [some (pin pa0 (aL [aD K (Cd.d (v_20.2.1 : (List Int))), aD K (Cd.d (v_20.2.2.1 : Int)), aD K (Cd.d (v_20.2.2.2.1 : Int)), aD K (Cd.d (v_20.2.2.2.2 : Int))])), some (aD K (Cd.d (l_went_in : (List (List Int))))), some (pin pv_18 (aLD K (List.map Cd.d (ys_17 : List (List Int))))), some (aD K (Cd.d (v_19.1 : Int))), some (aD K (Cd.d (v_20.1 : Int))), none] rfl (xg_bind fun v_141 hv_141 =>
  (xg_bind fun x_142 hx_142 =>
  (xg_bind fun j_143 hj_143 =>
  (xg_tgt (A := aD K (Cd.d (x_142 : (List Int)))) (xe_frz (xe_list (xc_ix (xs := ys_17) (xe_nmV 2 rfl) (xe_call (xx := (v_20.2, ((List.length ys_17 : Nat) : Int))) c_l_next (hr.mono (by decide)) hv_141 (xl_lend 0 0 (xl_of (xa_cons (xe_nmV 0 rfl) (xa_cons (xc_len (xs := ys_17) (xe_nmV 2 rfl) (Rlm.ls (rmO 2 rfl)) m_len) xa_nil))) rfl rfl) rfl (by simp) (by simp) (List.forall_mem_cons.mpr ⟨rfl, (List.forall_mem_nil _)⟩) rfl rfl) (Rlm.ls (rmO 2 rfl)) hx_142) rlD m_list)) (xp_setD (cv := Cd.d) (xs := ys_17) 2 (xe_nmV 2 rfl) (xe_nm 4 rfl) rfl hj_143) (xg_nilS (wk_k (wk_k (wk_k (wk_k (wk_k (wk_n wk_0))))))))))))) (fun s_138 => (xg_nilS (wk_k (wk_k (wk_k (wk_k (wk_k (wk_n wk_0))))))))))) (fun s_130 => (xg_nilS (wk_k (wk_k (wk_k (wk_k (wk_k (wk_n wk_0))))))))))) (fun s_115 => (xg_nilS (wk_k (wk_k (wk_k (wk_k (wk_k (wk_n wk_0))))))))))) (fun s_82 => (xg_freeze 2 rfl (xg_ret (A := aD K (Cd.d (s_82.1 : (List (List Int))))) (xe_nm 2 rfl) (wk_k (wk_k (wk_n (wk_n (wk_n (wk_n (wk_n wk_0)))))))))))))))))))))) (Nat.le_of_ble_eq_true rfl) rfl nd (blkOk_by (N := ["_law_tape", "_law_went_in", "_law_out_here", "_law_kind", "_law_place", "_law_packet"]) (sc := defScope s_l_out) (by decide +kernel)) (fun _ _ _ _ _ => pg_name nd rfl (.inl rfl))))))
def m_l_due (l_went_in : (List (List Int))) (l_out_here : (List (List Int))) (l_bound : Int) (l_quiet : Bool) : Option Wd :=
  (if (decide (((List.length l_went_in : Nat) : Int) < ((List.length l_out_here : Nat) : Int))) = true then
  (some w_order) else
  (Option.bind (guardO (-(2 ^ 62) ≤ ((List.length l_out_here : Nat) : Int) ∧ ((List.length l_out_here : Nat) : Int) < 2 ^ 62)) fun g_144 =>
  (thenR (foldB (fun (s_145 : Unit) (l_index_146 : Int) =>
  (Option.bind (atI l_out_here l_index_146) fun x_147 =>
  (Option.bind (atI l_went_in l_index_146) fun x_148 =>
  (if (!(decide ((x_147 : (List Int)) = x_148))) = true then
  Option.map Sum.inl (some w_order) else
  (some (Sum.inr ())))))) (rangeI 0 (Int.toNat ((List.length l_out_here : Nat) : Int))) ()) (fun s_149 =>
  (if (decide (l_bound < (((List.length l_went_in : Nat) : Int) - ((List.length l_out_here : Nat) : Int)))) = true then
  (some w_held) else
  (if (l_quiet && (decide (((List.length l_out_here : Nat) : Int) < ((List.length l_went_in : Nat) : Int)))) = true then
  (some w_missing) else
  (some w_empty)))) id)))
abbrev sp_l_due (K : PySem.W.Frag) : Sp := SpM (fun x : ((List (List Int)) × (List (List Int)) × Int × Bool) => [aD K (Cd.d (x.1 : (List (List Int)))), aD K (Cd.d (x.2.1 : (List (List Int)))), aD K (Cd.d (x.2.2.1 : Int)), aD K (Cd.d (x.2.2.2 : Bool))]) (fun x => m_l_due x.1 x.2.1 x.2.2.1 x.2.2.2) (fun x (r : Wd) => [none, none, none, none]) (fun _ r => aD K (Cd.d (r : Wd)))
abbrev s_l_due : Stmt := topS 6
theorem sc_l_due : FnScope ["_law_went_in", "_law_out_here", "_law_bound", "_law_quiet", "_law_index"] ["_law_went_in", "_law_out_here", "_law_bound", "_law_quiet"] (defScope s_l_due) := ⟨rfl, rfl, rfl, by decide +kernel, rfl, by decide +kernel, by decide +kernel⟩
set_option maxHeartbeats 4000000 in
theorem ok_l_due {P : Program} {w : World} {K : PySem.W.Frag} {mg : Str → Option Value} {base : Heap} {f : Addr} {fd : FuncData} (F : Fun K "_law_due" "_law_due" s_l_due f fd) (m_len : mg "len" = none) (m_range : mg "range" = none) : FnOk P w K mg base CX0 1 f fd ["_law_went_in", "_law_out_here", "_law_bound", "_law_quiet"] (sp_l_due K) :=
  fn_ok (k := 0) [false, false, false, false] F sc_l_due rfl (fun _ => rfl) (fun _ _ => rfl) fun x vs cdv A outer s H E hv hr => by
    match x, vs, hv with
    | (l_went_in, l_out_here, l_bound, l_quiet), [pa0, pa1, pa2, pa3], _ =>
      have nd := sc_l_due.nd
      show XG _ _ [some (aD K (Cd.d (l_went_in : (List (List Int))))), some (aD K (Cd.d (l_out_here : (List (List Int))))), some (aD K (Cd.d (l_bound : Int))), some (aD K (Cd.d (l_quiet : Bool))), none] (m_l_due l_went_in l_out_here l_bound l_quiet) (oR fun r : Wd => [some (aD K (Cd.d (r : Wd))), none, none, none, none, none])
      unfold m_l_due
      exact (xg_st [some (aD K (Cd.d (l_went_in : (List (List Int))))), some (aD K (Cd.d (l_out_here : (List (List Int))))), some (aD K (Cd.d (l_bound : Int))), some (aD K (Cd.d (l_quiet : Bool))), none] rfl (xg_ifR (u := []) (xt_k (xk_gt (xc_len (xs := l_out_here) (xe_nm 1 rfl) rlD m_len) (xc_len (xs := l_went_in) (xe_nm 0 rfl) rlD m_len))) (fun _ => (xg_ret (A := aD K (Cd.d (w_order : Wd))) xe_str (wk_k (wk_n (wk_n (wk_n (wk_n (wk_n wk_0)))))))) (fun _ => (xg_st [some (aD K (Cd.d (l_went_in : (List (List Int))))), some (aD K (Cd.d (l_out_here : (List (List Int))))), some (aD K (Cd.d (l_bound : Int))), some (aD K (Cd.d (l_quiet : Bool))), none] rfl (xg_bind fun g_144 hg_144 =>
  (xg_forR (N := (fun s_145 : Unit => [some (aD K (Cd.d (l_went_in : (List (List Int))))), some (aD K (Cd.d (l_out_here : (List (List Int))))), some (aD K (Cd.d (l_bound : Int))), some (aD K (Cd.d (l_quiet : Bool))), none])) PassesOwn.never rfl (xi_range1 rfl m_range (xc_len (xs := l_out_here) (xe_nm 1 rfl) rlD m_len) (guardO_eq hg_144)) (wk_k (wk_k (wk_k (wk_k (wk_n wk_0))))) (fun _ => trivial) (fun _ _ => (xp_nm 4)) (fun l_index_146 s_145 => (xg_st [some (aD K (Cd.d (l_went_in : (List (List Int))))), some (aD K (Cd.d (l_out_here : (List (List Int))))), some (aD K (Cd.d (l_bound : Int))), some (aD K (Cd.d (l_quiet : Bool))), some (aD K (Cd.d (l_index_146 : Int)))] rfl (xg_bind fun x_147 hx_147 =>
  (xg_bind fun x_148 hx_148 =>
  (xg_ifRB (u := []) (xt_k (xkc_ne (x := (x_147 : (List Int))) (y := (x_148 : (List Int))) hr.units (xc_ix (xs := l_out_here) (xe_nm 1 rfl) (xe_nm 4 rfl) rlD hx_147) (xc_ix (xs := l_went_in) (xe_nm 0 rfl) (xe_nm 4 rfl) rlD hx_148) rdD rdD)) (fun _ => (xg_ret (A := aD K (Cd.d (w_order : Wd))) xe_str (wk_k (wk_n (wk_n (wk_n (wk_n (wk_n wk_0)))))))) (fun _ => (xg_nilB (wk_k (wk_k (wk_k (wk_k (wk_n wk_0)))))))))))) (fun s_149 => (xg_st [some (aD K (Cd.d (l_went_in : (List (List Int))))), some (aD K (Cd.d (l_out_here : (List (List Int))))), some (aD K (Cd.d (l_bound : Int))), some (aD K (Cd.d (l_quiet : Bool))), none] rfl (xg_ifR (u := []) (xt_k (xk_gt (xe_sub (xc_len (xs := l_went_in) (xe_nm 0 rfl) rlD m_len) (xc_len (xs := l_out_here) (xe_nm 1 rfl) rlD m_len)) (xe_nm 2 rfl))) (fun _ => (xg_ret (A := aD K (Cd.d (w_held : Wd))) xe_str (wk_k (wk_n (wk_n (wk_n (wk_n (wk_n wk_0)))))))) (fun _ => (xg_st [some (aD K (Cd.d (l_went_in : (List (List Int))))), some (aD K (Cd.d (l_out_here : (List (List Int))))), some (aD K (Cd.d (l_bound : Int))), some (aD K (Cd.d (l_quiet : Bool))), none] rfl (xg_ifR (u := []) (xt_w (xw_and (xt_v (xe_nm 3 rfl)) fun _ => (xw_and1 (xt_k (xk_lt (xc_len (xs := l_out_here) (xe_nm 1 rfl) rlD m_len) (xc_len (xs := l_went_in) (xe_nm 0 rfl) rlD m_len)))))) (fun _ => (xg_ret (A := aD K (Cd.d (w_missing : Wd))) xe_str (wk_k (wk_n (wk_n (wk_n (wk_n (wk_n wk_0)))))))) (fun _ => (xg_ret (A := aD K (Cd.d (w_empty : Wd))) xe_str (wk_k (wk_n (wk_n (wk_n (wk_n (wk_n wk_0))))))))))))))))))))
def m_l_bill (l_total : Int) (l_metered : Int) (l_billed : Int) (l_settled : Bool) : Option Wd :=
  (if (!(decide ((l_metered : Int) = l_total))) = true then
  (some w_metered) else
  (if (decide (l_metered < l_billed)) = true then
  (some w_billed) else
  (if (l_settled && (decide (l_billed < l_metered))) = true then
  (some w_open) else
  (some w_empty))))
abbrev sp_l_bill (K : PySem.W.Frag) : Sp := SpM (fun x : (Int × Int × Int × Bool) => [aD K (Cd.d (x.1 : Int)), aD K (Cd.d (x.2.1 : Int)), aD K (Cd.d (x.2.2.1 : Int)), aD K (Cd.d (x.2.2.2 : Bool))]) (fun x => m_l_bill x.1 x.2.1 x.2.2.1 x.2.2.2) (fun x (r : Wd) => [none, none, none, none]) (fun _ r => aD K (Cd.d (r : Wd)))
abbrev s_l_bill : Stmt := topS 7
theorem sc_l_bill : FnScope ["_law_total", "_law_metered", "_law_billed", "_law_settled"] ["_law_total", "_law_metered", "_law_billed", "_law_settled"] (defScope s_l_bill) := ⟨rfl, rfl, rfl, by decide +kernel, rfl, by decide +kernel, by decide +kernel⟩
set_option maxHeartbeats 4000000 in
theorem ok_l_bill {P : Program} {w : World} {K : PySem.W.Frag} {mg : Str → Option Value} {base : Heap} {f : Addr} {fd : FuncData} (F : Fun K "_law_bill" "_law_bill" s_l_bill f fd)  : FnOk P w K mg base CX0 1 f fd ["_law_total", "_law_metered", "_law_billed", "_law_settled"] (sp_l_bill K) :=
  fn_ok (k := 0) [false, false, false, false] F sc_l_bill rfl (fun _ => rfl) (fun _ _ => rfl) fun x vs cdv A outer s H E hv hr => by
    match x, vs, hv with
    | (l_total, l_metered, l_billed, l_settled), [pa0, pa1, pa2, pa3], _ =>
      have nd := sc_l_bill.nd
      show XG _ _ [some (aD K (Cd.d (l_total : Int))), some (aD K (Cd.d (l_metered : Int))), some (aD K (Cd.d (l_billed : Int))), some (aD K (Cd.d (l_settled : Bool)))] (m_l_bill l_total l_metered l_billed l_settled) (oR fun r : Wd => [some (aD K (Cd.d (r : Wd))), none, none, none, none])
      unfold m_l_bill
      exact (xg_st [some (aD K (Cd.d (l_total : Int))), some (aD K (Cd.d (l_metered : Int))), some (aD K (Cd.d (l_billed : Int))), some (aD K (Cd.d (l_settled : Bool)))] rfl (xg_ifR (u := []) (xt_k (xkc_ne (x := (l_metered : Int)) (y := (l_total : Int)) hr.units (xe_nm 1 rfl) (xe_nm 0 rfl) rdD rdD)) (fun _ => (xg_ret (A := aD K (Cd.d (w_metered : Wd))) xe_str (wk_k (wk_n (wk_n (wk_n (wk_n wk_0))))))) (fun _ => (xg_st [some (aD K (Cd.d (l_total : Int))), some (aD K (Cd.d (l_metered : Int))), some (aD K (Cd.d (l_billed : Int))), some (aD K (Cd.d (l_settled : Bool)))] rfl (xg_ifR (u := []) (xt_k (xk_gt (xe_nm 2 rfl) (xe_nm 1 rfl))) (fun _ => (xg_ret (A := aD K (Cd.d (w_billed : Wd))) xe_str (wk_k (wk_n (wk_n (wk_n (wk_n wk_0))))))) (fun _ => (xg_st [some (aD K (Cd.d (l_total : Int))), some (aD K (Cd.d (l_metered : Int))), some (aD K (Cd.d (l_billed : Int))), some (aD K (Cd.d (l_settled : Bool)))] rfl (xg_ifR (u := []) (xt_w (xw_and (xt_v (xe_nm 3 rfl)) fun _ => (xw_and1 (xt_k (xk_lt (xe_nm 2 rfl) (xe_nm 1 rfl)))))) (fun _ => (xg_ret (A := aD K (Cd.d (w_open : Wd))) xe_str (wk_k (wk_n (wk_n (wk_n (wk_n wk_0))))))) (fun _ => (xg_ret (A := aD K (Cd.d (w_empty : Wd))) xe_str (wk_k (wk_n (wk_n (wk_n (wk_n wk_0)))))))))))))))
def m_law (l_script : (List Int)) : Option Bool :=
  (Option.bind (m_l_next (l_script, 0, 0, 5) 10) fun v_152 =>
  (Option.bind (guardO (-(2 ^ 62) ≤ v_152.1 ∧ v_152.1 < 2 ^ 62)) fun g_153 =>
  (Option.bind (List.foldlM (fun (s_154 : ((List (List Int)) × ((List Int) × Int × Int × Int))) (l_turn_155 : Int) =>
  (Option.bind (m_l_next s_154.2 4) fun v_156 =>
  (Option.bind (guardO (-(2 ^ 62) ≤ (1 + v_156.1) ∧ (1 + v_156.1) < 2 ^ 62)) fun g_157 =>
  (Option.bind (mapS (fun (s_159 : ((List Int) × Int × Int × Int)) (l_k_158 : Int) => (Option.bind (m_l_next s_159 3) fun v_160 => (some (v_160.1, v_160.2)))) (rangeI 0 (Int.toNat (1 + v_156.1))) v_156.2) fun ys_162 =>
  (Option.bind (guardO (List.length s_154.1 < 1000000)) fun g_163 =>
  (some ((s_154.1 ++ [ys_162.1]), ys_162.2))))))) (([] : List (List Int)), v_152.2) (rangeI 0 (Int.toNat v_152.1))) fun s_164 =>
  (Option.bind (m_l_out s_164.2 s_164.1) fun v_165 =>
  (Option.bind (m_l_next v_165.2 10) fun v_166 =>
  (Option.bind (m_l_next v_166.2 2) fun v_167 =>
  (lett ((decide ((v_167.1 : Int) = 0)) : Bool) fun l_quiet_168 =>
  (Option.bind (mapO (fun l_packet_169 : (List Int) => (some l_packet_169)) s_164.1) fun ys_170 =>
  (Option.bind (mapO (fun l_packet_171 : (List Int) => (some l_packet_171)) v_165.1) fun ys_172 =>
  (lett ((ys_170, ys_172) : ((List (List Int)) × (List (List Int)))) fun l_kept_173 =>
  (Option.bind (m_first_fault s_164.1 v_165.1 v_166.1 l_quiet_168) fun v_174 =>
  (Option.bind (m_l_due s_164.1 v_165.1 v_166.1 l_quiet_168) fun v_175 =>
  (if (!(decide ((v_174 : Wd) = v_175))) = true then
  (some false) else
  (Option.bind (mapO (fun l_packet_176 : (List Int) => (some ((List.length l_packet_176 : Nat) : Int))) v_165.1) fun ys_177 =>
  (lett ((List.sum ys_177) : Int) fun l_total_178 =>
  (Option.bind (m_l_next v_167.2 5) fun v_179 =>
  (Option.bind (atI ([0, 0, 0, 1, (-1)]) v_179.1) fun x_180 =>
  (lett ((l_total_178 + x_180) : Int) fun l_metered_181 =>
  (Option.bind (m_l_next v_179.2 5) fun v_182 =>
  (Option.bind (atI ([0, 0, 1, (-1), (-2)]) v_182.1) fun x_183 =>
  (lett ((l_metered_181 + x_183) : Int) fun l_billed_184 =>
  (Option.bind (m_l_next v_182.2 2) fun v_185 =>
  (lett ((decide ((v_185.1 : Int) = 0)) : Bool) fun l_settled_186 =>
  (Option.bind (m_bill_fault v_165.1 l_metered_181 l_billed_184 l_settled_186) fun v_187 =>
  (Option.bind (m_l_bill l_total_178 l_metered_181 l_billed_184 l_settled_186) fun v_188 =>
  (if (!(decide ((v_187 : Wd) = v_188))) = true then
  (some false) else
  (some (decide (((s_164.1, v_165.1) : ((List (List Int)) × (List (List Int)))) = l_kept_173)))))))))))))))))))))))))))))
abbrev sp_law (K : PySem.W.Frag) : Sp := SpM (fun x : (List Int) => [aR K (List.map Cd.d (x : List Int))]) (fun x => m_law x) (fun x (r : Bool) => [none]) (fun _ r => aD K (Cd.d (r : Bool)))
abbrev s_law : Stmt := topS 8
theorem sc_law : FnScope ["_law_script", "_law_tape", "_law_went_in", "_law_turn", "_law_out_here", "_law_bound", "_law_quiet", "_law_kept", "_law_total", "_law_metered", "_law_billed", "_law_settled", "_law_packet", "_law_k"] ["_law_script"] (defScope s_law) := ⟨rfl, rfl, rfl, by decide +kernel, rfl, by decide +kernel, by decide +kernel⟩
set_option maxHeartbeats 4000000 in
theorem ok_law {P : Program} {w : World} {K : PySem.W.Frag} {mg : Str → Option Value} {base : Heap} {f : Addr} {fd : FuncData} (F : Fun K "law" "law" s_law f fd) (m_len : mg "len" = none) (m_list : mg "list" = none) (m_range : mg "range" = none) (m_sum : mg "sum" = none) (c_l_bill : Cal P w K mg base 1 "_law_bill" (sp_l_bill K)) (c_l_due : Cal P w K mg base 1 "_law_due" (sp_l_due K)) (c_l_next : Cal P w K mg base 1 "_law_next" (sp_l_next K)) (c_l_out : Cal P w K mg base 2 "_law_out" (sp_l_out K)) (c_bill_fault : Cal P w K mg base 1 "bill_fault" (sp_bill_fault K)) (c_first_fault : Cal P w K mg base 1 "first_fault" (sp_first_fault K)) : FnOk P w K mg base CX0 3 f fd ["_law_script"] (sp_law K) :=
  fn_ok (k := 2) [false] F sc_law rfl (fun _ => rfl) (fun _ _ => rfl) fun x vs cdv A outer s H E hv hr => by
    match x, vs, hv with
    | l_script, [pa0], _ =>
      have nd := sc_law.nd
      show XG _ _ [some (aR K (List.map Cd.d (l_script : List Int))), none, none, none, none, none, none, none, none, none, none, none, none, none] (m_law l_script) (oR fun r : Bool => [some (aD K (Cd.d (r : Bool))), none, none, none, none, none, none, none, none, none, none, none, none, none, none])
      unfold m_law
      exact (xg_st [some (aR K (List.map Cd.d (l_script : List Int))), none, none, none, none, none, none, none, none, none, none, none, none, none] rfl (xg_asgP 1 (xe_lst (xa_cons (xe_frz (xe_list (xe_nmR 0 rfl) rlR m_list)) (xa_cons xe_int (xa_cons xe_int (xa_cons xe_int xa_nil)))) (Nat.le_of_ble_eq_true rfl)) fun pv_150 => (xg_st [some (aR K (List.map Cd.d (l_script : List Int))), some (pin pv_150 (aL [aD K (Cd.d (((l_script, 0, 0, 5)).1 : (List Int))), aD K (Cd.d (((l_script, 0, 0, 5)).2.1 : Int)), aD K (Cd.d (((l_script, 0, 0, 5)).2.2.1 : Int)), aD K (Cd.d (((l_script, 0, 0, 5)).2.2.2 : Int))])), none, none, none, none, none, none, none, none, none, none, none, none] rfl (xg_asgP 2 (xe_is (B := aLD K (List.map Cd.d ([] : List (List Int)))) (xe_lst xa_nil (Nat.le_of_ble_eq_true rfl)) rfl) fun pv_151 => (xg_st [some (aR K (List.map Cd.d (l_script : List Int))), some (pin pv_150 (aL [aD K (Cd.d (((l_script, 0, 0, 5)).1 : (List Int))), aD K (Cd.d (((l_script, 0, 0, 5)).2.1 : Int)), aD K (Cd.d (((l_script, 0, 0, 5)).2.2.1 : Int)), aD K (Cd.d (((l_script, 0, 0, 5)).2.2.2 : Int))])), some (pin pv_151 (aLD K (List.map Cd.d (([] : List (List Int)) : List (List Int))))), none, none, none, none, none, none, none, none, none, none, none] rfl (xg_bind fun v_152 hv_152 =>
  (xg_bind fun g_153 hg_153 =>
  (xg_for (N := (fun s_154 : ((List (List Int)) × ((List Int) × Int × Int × Int)) => [some (aR K (List.map Cd.d (l_script : List Int))), some (pin pv_150 (aL [aD K (Cd.d (s_154.2.1 : (List Int))), aD K (Cd.d (s_154.2.2.1 : Int)), aD K (Cd.d (s_154.2.2.2.1 : Int)), aD K (Cd.d (s_154.2.2.2.2 : Int))])), some (pin pv_151 (aLD K (List.map Cd.d (s_154.1 : List (List Int))))), none, none, none, none, none, none, none, none, none, none, none])) PassesOwn.never rfl (xi_range1 rfl m_range (xe_call (xx := ((l_script, 0, 0, 5), 10)) c_l_next (hr.mono (by decide)) hv_152 (xl_lend 0 1 (xl_of (xa_cons (xe_nmV 1 rfl) (xa_cons xe_int xa_nil))) rfl rfl) rfl (by simp) (by simp) (List.forall_mem_cons.mpr ⟨rfl, (List.forall_mem_nil _)⟩) rfl rfl) (guardO_eq hg_153)) (wk_k (wk_k (wk_k (wk_n (wk_n (wk_n (wk_n (wk_n (wk_n (wk_n (wk_n (wk_n (wk_n (wk_n wk_0)))))))))))))) (fun _ => trivial) (fun _ _ => (xp_nm 3)) (fun l_turn_155 s_154 => (xg_st [some (aR K (List.map Cd.d (l_script : List Int))), some (pin pv_150 (aL [aD K (Cd.d (s_154.2.1 : (List Int))), aD K (Cd.d (s_154.2.2.1 : Int)), aD K (Cd.d (s_154.2.2.2.1 : Int)), aD K (Cd.d (s_154.2.2.2.2 : Int))])), some (pin pv_151 (aLD K (List.map Cd.d (s_154.1 : List (List Int))))), some (aD K (Cd.d (l_turn_155 : Int))), none, none, none, none, none, none, none, none, none, none] rfl (xg_bind fun v_156 hv_156 =>
  (xg_bind fun g_157 hg_157 =>
  (xg_bind fun ys_162 hys_162 =>
  (xg_bind fun g_163 hg_163 =>
  (xg_expr (xe_appendD (cv := Cd.d) (xs := s_154.1) (x := ys_162.1) 2 (xe_nmV 2 rfl) rfl (xe_frz (xe_lc (xc_imp (xc_mapS 13 hys_162 (xi_range1 rfl m_range (xe_add xe_int (xe_call (xx := (s_154.2, 4)) c_l_next (hr.mono (by decide)) hv_156 (xl_lend 0 1 (xl_of (xa_cons (xe_nmV 1 rfl) (xa_cons xe_int xa_nil))) rfl rfl) rfl (by simp) (by simp) (List.forall_mem_cons.mpr ⟨rfl, (List.forall_mem_nil _)⟩) rfl rfl)) (guardO_eq hg_157)) (wk_k (wk_k (wk_k (wk_k (wk_n (wk_n (wk_n (wk_n (wk_n (wk_n (wk_n (wk_n (wk_n (wk_n wk_0)))))))))))))) (fun _ => trivial) (fun _ => rfl) (N := (fun s_159 : ((List Int) × Int × Int × Int) => [some (aR K (List.map Cd.d (l_script : List Int))), some (pin pv_150 (aL [aD K (Cd.d (s_159.1 : (List Int))), aD K (Cd.d (s_159.2.1 : Int)), aD K (Cd.d (s_159.2.2.1 : Int)), aD K (Cd.d (s_159.2.2.2 : Int))])), some (pin pv_151 (aLD K (List.map Cd.d (s_154.1 : List (List Int))))), some (aD K (Cd.d (l_turn_155 : Int))), none, none, none, none, none, none, none, none, none, none])) (N2 := (fun (l_k_158 : Int) (o_161 : Int × ((List Int) × Int × Int × Int)) => [some (aR K (List.map Cd.d (l_script : List Int))), some (pin pv_150 (aL [aD K (Cd.d (o_161.2.1 : (List Int))), aD K (Cd.d (o_161.2.2.1 : Int)), aD K (Cd.d (o_161.2.2.2.1 : Int)), aD K (Cd.d (o_161.2.2.2.2 : Int))])), some (pin pv_151 (aLD K (List.map Cd.d (s_154.1 : List (List Int))))), some (aD K (Cd.d (l_turn_155 : Int))), none, none, none, none, none, none, none, none, none, some (aD K (Cd.d (l_k_158 : Int)))])) (el := fun y => aD K (Cd.d (y : Int))) (fun _ _ _ _ _ l_k_158 s_159 => (xem_bind fun v_160 hv_160 => (xem_some (xe_call (xx := (s_159, 3)) c_l_next (hr.mono (by decide)) hv_160 (xl_lend 0 1 (xl_of (xa_cons (xe_nmV 1 rfl) (xa_cons xe_int xa_nil))) rfl rfl) rfl (by simp) (by simp) (List.forall_mem_cons.mpr ⟨rfl, (List.forall_mem_nil _)⟩) rfl rfl)))) (fun _ _ => (wk_k (wk_k (wk_k (wk_k (wk_n (wk_n (wk_n (wk_n (wk_n (wk_n (wk_n (wk_n (wk_n (wk_n wk_0)))))))))))))))) (aLD_map Cd.d _)) rfl nd (blkOk_by (N := ["_law_script", "_law_tape", "_law_went_in", "_law_turn", "_law_out_here", "_law_bound", "_law_quiet", "_law_kept", "_law_total", "_law_metered", "_law_billed", "_law_settled", "_law_packet", "_law_k"]) (sc := defScope s_law) (by decide +kernel)) (fun _ _ _ _ _ => pg_name nd rfl (.inl rfl)))) rfl (sz_lt (guardO_eq hg_163))) (xg_nilS (wk_k (wk_k (wk_k (wk_n (wk_n (wk_n (wk_n (wk_n (wk_n (wk_n (wk_n (wk_n (wk_n (wk_n wk_0)))))))))))))))))))))) (fun s_164 => (xg_freeze 2 rfl (xg_st [some (aR K (List.map Cd.d (l_script : List Int))), some (pin pv_150 (aL [aD K (Cd.d (s_164.2.1 : (List Int))), aD K (Cd.d (s_164.2.2.1 : Int)), aD K (Cd.d (s_164.2.2.2.1 : Int)), aD K (Cd.d (s_164.2.2.2.2 : Int))])), some (aD K (Cd.d (s_164.1 : (List (List Int))))), none, none, none, none, none, none, none, none, none, none, none] rfl (xg_bind fun v_165 hv_165 =>
  (xg_asg 4 (A := aD K (Cd.d (v_165.1 : (List (List Int))))) (xe_call (xx := (s_164.2, s_164.1)) c_l_out (hr.mono (by decide)) hv_165 (xl_lend 0 1 (xl_of (xa_cons (xe_nmV 1 rfl) (xa_cons (xe_nm 2 rfl) xa_nil))) rfl rfl) rfl (by simp) (by simp) (List.forall_mem_cons.mpr ⟨rfl, (List.forall_mem_nil _)⟩) rfl rfl) (xg_st [some (aR K (List.map Cd.d (l_script : List Int))), some (pin pv_150 (aL [aD K (Cd.d (v_165.2.1 : (List Int))), aD K (Cd.d (v_165.2.2.1 : Int)), aD K (Cd.d (v_165.2.2.2.1 : Int)), aD K (Cd.d (v_165.2.2.2.2 : Int))])), some (aD K (Cd.d (s_164.1 : (List (List Int))))), none, some (aD K (Cd.d (v_165.1 : (List (List Int))))), none, none, none, none, none, none, none, none, none] rfl (xg_bind fun v_166 hv_166 =>
  (xg_asg 5 (A := aD K (Cd.d (v_166.1 : Int))) (xe_call (xx := (v_165.2, 10)) c_l_next (hr.mono (by decide)) hv_166 (xl_lend 0 1 (xl_of (xa_cons (xe_nmV 1 rfl) (xa_cons xe_int xa_nil))) rfl rfl) rfl (by simp) (by simp) (List.forall_mem_cons.mpr ⟨rfl, (List.forall_mem_nil _)⟩) rfl rfl) (xg_st [some (aR K (List.map Cd.d (l_script : List Int))), some (pin pv_150 (aL [aD K (Cd.d (v_166.2.1 : (List Int))), aD K (Cd.d (v_166.2.2.1 : Int)), aD K (Cd.d (v_166.2.2.2.1 : Int)), aD K (Cd.d (v_166.2.2.2.2 : Int))])), some (aD K (Cd.d (s_164.1 : (List (List Int))))), none, some (aD K (Cd.d (v_165.1 : (List (List Int))))), some (aD K (Cd.d (v_166.1 : Int))), none, none, none, none, none, none, none, none] rfl (xg_bind fun v_167 hv_167 =>
  (xg_lett fun l_quiet_168 hl_quiet_168 =>
  (xg_asg 6 (A := aD K (Cd.d (l_quiet_168 : Bool))) (xe_nv (v := ((decide ((v_167.1 : Int) = 0)) : Bool)) (xe_k (xkc_eq (x := (v_167.1 : Int)) (y := (0 : Int)) hr.units (xe_call (xx := (v_166.2, 2)) c_l_next (hr.mono (by decide)) hv_167 (xl_lend 0 1 (xl_of (xa_cons (xe_nmV 1 rfl) (xa_cons xe_int xa_nil))) rfl rfl) rfl (by simp) (by simp) (List.forall_mem_cons.mpr ⟨rfl, (List.forall_mem_nil _)⟩) rfl rfl) xe_int rdD rdD)) hl_quiet_168) (xg_st [some (aR K (List.map Cd.d (l_script : List Int))), some (pin pv_150 (aL [aD K (Cd.d (v_167.2.1 : (List Int))), aD K (Cd.d (v_167.2.2.1 : Int)), aD K (Cd.d (v_167.2.2.2.1 : Int)), aD K (Cd.d (v_167.2.2.2.2 : Int))])), some (aD K (Cd.d (s_164.1 : (List (List Int))))), none, some (aD K (Cd.d (v_165.1 : (List (List Int))))), some (aD K (Cd.d (v_166.1 : Int))), some (aD K (Cd.d (l_quiet_168 : Bool))), none, none, none, none, none, none, none] rfl (xg_bind fun ys_170 hys_170 =>
  (xg_bind fun ys_172 hys_172 =>
  (xg_lett fun l_kept_173 hl_kept_173 =>
  (xg_asg 7 (A := aD K (Cd.d (l_kept_173 : ((List (List Int)) × (List (List Int)))))) (xe_nv (v := ((ys_170, ys_172) : ((List (List Int)) × (List (List Int))))) (xe_tup (ds := [Cd.d (ys_170 : (List (List Int))), Cd.d (ys_172 : (List (List Int)))]) (xa_cons (xe_frz (xe_lc (xc_imp (xc_mapO 12 hys_170 (xi_list (xs := s_164.1) (cv := Cd.d) (xe_nm 2 rfl)) trivial (Nat.le_of_ble_eq_true rfl) (el := fun y => aD K (Cd.d (y : (List Int)))) (fun _ _ _ _ _ l_packet_169 => (xem_some (xe_frz (xe_list (xe_nm 12 rfl) rlD m_list))))) (aLD_map Cd.d _)) rfl nd (blkOk_by (N := ["_law_script", "_law_tape", "_law_went_in", "_law_turn", "_law_out_here", "_law_bound", "_law_quiet", "_law_kept", "_law_total", "_law_metered", "_law_billed", "_law_settled", "_law_packet", "_law_k"]) (sc := defScope s_law) (by decide +kernel)) (fun _ _ _ _ _ => pg_name nd rfl (.inl rfl)))) (xa_cons (xe_frz (xe_lc (xc_imp (xc_mapO 12 hys_172 (xi_list (xs := v_165.1) (cv := Cd.d) (xe_nm 4 rfl)) trivial (Nat.le_of_ble_eq_true rfl) (el := fun y => aD K (Cd.d (y : (List Int)))) (fun _ _ _ _ _ l_packet_171 => (xem_some (xe_frz (xe_list (xe_nm 12 rfl) rlD m_list))))) (aLD_map Cd.d _)) rfl nd (blkOk_by (N := ["_law_script", "_law_tape", "_law_went_in", "_law_turn", "_law_out_here", "_law_bound", "_law_quiet", "_law_kept", "_law_total", "_law_metered", "_law_billed", "_law_settled", "_law_packet", "_law_k"]) (sc := defScope s_law) (by decide +kernel)) (fun _ _ _ _ _ => pg_name nd rfl (.inl rfl)))) xa_nil)) (Nat.le_of_ble_eq_true rfl)) hl_kept_173) (xg_st [some (aR K (List.map Cd.d (l_script : List Int))), some (pin pv_150 (aL [aD K (Cd.d (v_167.2.1 : (List Int))), aD K (Cd.d (v_167.2.2.1 : Int)), aD K (Cd.d (v_167.2.2.2.1 : Int)), aD K (Cd.d (v_167.2.2.2.2 : Int))])), some (aD K (Cd.d (s_164.1 : (List (List Int))))), none, some (aD K (Cd.d (v_165.1 : (List (List Int))))), some (aD K (Cd.d (v_166.1 : Int))), some (aD K (Cd.d (l_quiet_168 : Bool))), some (aD K (Cd.d (l_kept_173 : ((List (List Int)) × (List (List Int)))))), none, none, none, none, none, none] rfl (xg_bind fun v_174 hv_174 =>
  (xg_bind fun v_175 hv_175 =>
  (xg_ifR (u := []) (xt_k (xkc_ne (x := (v_174 : Wd)) (y := (v_175 : Wd)) hr.units (xe_call (xx := (s_164.1, v_165.1, v_166.1, l_quiet_168)) c_first_fault (hr.mono (by decide)) hv_174 (xl_of (xa_cons (xe_nm 2 rfl) (xa_cons (xe_nm 4 rfl) (xa_cons (xe_nm 5 rfl) (xa_cons (xe_nm 6 rfl) xa_nil))))) rfl (by simp) (by simp) (List.forall_mem_nil _) rfl rfl) (xe_call (xx := (s_164.1, v_165.1, v_166.1, l_quiet_168)) c_l_due (hr.mono (by decide)) hv_175 (xl_of (xa_cons (xe_nm 2 rfl) (xa_cons (xe_nm 4 rfl) (xa_cons (xe_nm 5 rfl) (xa_cons (xe_nm 6 rfl) xa_nil))))) rfl (by simp) (by simp) (List.forall_mem_nil _) rfl rfl) rdD rdD)) (fun _ => (xg_ret (A := aD K (Cd.d (false : Bool))) xe_bl (wk_k (wk_n (wk_n (wk_n (wk_n (wk_n (wk_n (wk_n (wk_n (wk_n (wk_n (wk_n (wk_n (wk_n (wk_n wk_0))))))))))))))))) (fun _ => (xg_st [some (aR K (List.map Cd.d (l_script : List Int))), some (pin pv_150 (aL [aD K (Cd.d (v_167.2.1 : (List Int))), aD K (Cd.d (v_167.2.2.1 : Int)), aD K (Cd.d (v_167.2.2.2.1 : Int)), aD K (Cd.d (v_167.2.2.2.2 : Int))])), some (aD K (Cd.d (s_164.1 : (List (List Int))))), none, some (aD K (Cd.d (v_165.1 : (List (List Int))))), some (aD K (Cd.d (v_166.1 : Int))), some (aD K (Cd.d (l_quiet_168 : Bool))), some (aD K (Cd.d (l_kept_173 : ((List (List Int)) × (List (List Int)))))), none, none, none, none, none, none] rfl (xg_bind fun ys_177 hys_177 =>
  (xg_lett fun l_total_178 hl_total_178 =>
  (xg_asg 8 (A := aD K (Cd.d (l_total_178 : Int))) (xe_nv (v := ((List.sum ys_177) : Int)) (xe_sum (ns := ys_177) rfl (xe_lc (xc_imp (xc_mapO 12 hys_177 (xi_list (xs := v_165.1) (cv := Cd.d) (xe_nm 4 rfl)) trivial (Nat.le_of_ble_eq_true rfl) (el := fun y => aD K (Cd.d (y : Int))) (fun _ _ _ _ _ l_packet_176 => (xem_some (xc_len (xs := l_packet_176) (xe_nm 12 rfl) rlD m_len)))) (aLD_map Cd.d _)) rfl nd (blkOk_by (N := ["_law_script", "_law_tape", "_law_went_in", "_law_turn", "_law_out_here", "_law_bound", "_law_quiet", "_law_kept", "_law_total", "_law_metered", "_law_billed", "_law_settled", "_law_packet", "_law_k"]) (sc := defScope s_law) (by decide +kernel)) (fun _ _ _ _ _ => pg_name nd rfl (.inl rfl))) (Rlm.ls rmL) m_sum) hl_total_178) (xg_st [some (aR K (List.map Cd.d (l_script : List Int))), some (pin pv_150 (aL [aD K (Cd.d (v_167.2.1 : (List Int))), aD K (Cd.d (v_167.2.2.1 : Int)), aD K (Cd.d (v_167.2.2.2.1 : Int)), aD K (Cd.d (v_167.2.2.2.2 : Int))])), some (aD K (Cd.d (s_164.1 : (List (List Int))))), none, some (aD K (Cd.d (v_165.1 : (List (List Int))))), some (aD K (Cd.d (v_166.1 : Int))), some (aD K (Cd.d (l_quiet_168 : Bool))), some (aD K (Cd.d (l_kept_173 : ((List (List Int)) × (List (List Int)))))), some (aD K (Cd.d (l_total_178 : Int))), none, none, none, none, none] rfl (xg_bind fun v_179 hv_179 =>
  (xg_bind fun x_180 hx_180 =>
  (xg_lett fun l_metered_181 hl_metered_181 =>
  (xg_asg 9 (A := aD K (Cd.d (l_metered_181 : Int))) (xe_nv (v := ((l_total_178 + x_180) : Int)) (xe_add (xe_nm 8 rfl) (xc_ixT (xs := [0, 0, 0, 1, (-1)]) (xe_tup (ds := List.map Cd.d ([0, 0, 0, 1, (-1)] : List Int)) (xa_cons xe_int (xa_cons xe_int (xa_cons xe_int (xa_cons xe_int (xa_cons (xe_neg xe_int) xa_nil))))) (Nat.le_of_ble_eq_true rfl)) (xe_call (xx := (v_167.2, 5)) c_l_next (hr.mono (by decide)) hv_179 (xl_lend 0 1 (xl_of (xa_cons (xe_nmV 1 rfl) (xa_cons xe_int xa_nil))) rfl rfl) rfl (by simp) (by simp) (List.forall_mem_cons.mpr ⟨rfl, (List.forall_mem_nil _)⟩) rfl rfl) rtD hx_180)) hl_metered_181) (xg_st [some (aR K (List.map Cd.d (l_script : List Int))), some (pin pv_150 (aL [aD K (Cd.d (v_179.2.1 : (List Int))), aD K (Cd.d (v_179.2.2.1 : Int)), aD K (Cd.d (v_179.2.2.2.1 : Int)), aD K (Cd.d (v_179.2.2.2.2 : Int))])), some (aD K (Cd.d (s_164.1 : (List (List Int))))), none, some (aD K (Cd.d (v_165.1 : (List (List Int))))), some (aD K (Cd.d (v_166.1 : Int))), some (aD K (Cd.d (l_quiet_168 : Bool))), some (aD K (Cd.d (l_kept_173 : ((List (List Int)) × (List (List Int)))))), some (aD K (Cd.d (l_total_178 : Int))), some (aD K (Cd.d (l_metered_181 : Int))), none, none, none, none] rfl (xg_bind fun v_182 hv_182 =>
  (xg_bind fun x_183 hx_183 =>
  (xg_lett fun l_billed_184 hl_billed_184 =>
  (xg_asg 10 (A := aD K (Cd.d (l_billed_184 : Int))) (xe_nv (v := ((l_metered_181 + x_183) : Int)) (xe_add (xe_nm 9 rfl) (xc_ixT (xs := [0, 0, 1, (-1), (-2)]) (xe_tup (ds := List.map Cd.d ([0, 0, 1, (-1), (-2)] : List Int)) (xa_cons xe_int (xa_cons xe_int (xa_cons xe_int (xa_cons (xe_neg xe_int) (xa_cons (xe_neg xe_int) xa_nil))))) (Nat.le_of_ble_eq_true rfl)) (xe_call (xx := (v_179.2, 5)) c_l_next (hr.mono (by decide)) hv_182 (xl_lend 0 1 (xl_of (xa_cons (xe_nmV 1 rfl) (xa_cons xe_int xa_nil))) rfl rfl) rfl (by simp) (by simp) (List.forall_mem_cons.mpr ⟨rfl, (List.forall_mem_nil _)⟩) rfl rfl) rtD hx_183)) hl_billed_184) (xg_st [some (aR K (List.map Cd.d (l_script : List Int))), some (pin pv_150 (aL [aD K (Cd.d (v_182.2.1 : (List Int))), aD K (Cd.d (v_182.2.2.1 : Int)), aD K (Cd.d (v_182.2.2.2.1 : Int)), aD K (Cd.d (v_182.2.2.2.2 : Int))])), some (aD K (Cd.d (s_164.1 : (List (List Int))))), none, some (aD K (Cd.d (v_165.1 : (List (List Int))))), some (aD K (Cd.d (v_166.1 : Int))), some (aD K (Cd.d (l_quiet_168 : Bool))), some (aD K (Cd.d (l_kept_173 : ((List (List Int)) × (List (List Int)))))), some (aD K (Cd.d (l_total_178 : Int))), some (aD K (Cd.d (l_metered_181 : Int))), some (aD K (Cd.d (l_billed_184 : Int))), none, none, none] rfl (xg_bind fun v_185 hv_185 =>
  (xg_lett fun l_settled_186 hl_settled_186 =>
  (xg_asg 11 (A := aD K (Cd.d (l_settled_186 : Bool))) (xe_nv (v := ((decide ((v_185.1 : Int) = 0)) : Bool)) (xe_k (xkc_eq (x := (v_185.1 : Int)) (y := (0 : Int)) hr.units (xe_call (xx := (v_182.2, 2)) c_l_next (hr.mono (by decide)) hv_185 (xl_lend 0 1 (xl_of (xa_cons (xe_nmV 1 rfl) (xa_cons xe_int xa_nil))) rfl rfl) rfl (by simp) (by simp) (List.forall_mem_cons.mpr ⟨rfl, (List.forall_mem_nil _)⟩) rfl rfl) xe_int rdD rdD)) hl_settled_186) (xg_st [some (aR K (List.map Cd.d (l_script : List Int))), some (pin pv_150 (aL [aD K (Cd.d (v_185.2.1 : (List Int))), aD K (Cd.d (v_185.2.2.1 : Int)), aD K (Cd.d (v_185.2.2.2.1 : Int)), aD K (Cd.d (v_185.2.2.2.2 : Int))])), some (aD K (Cd.d (s_164.1 : (List (List Int))))), none, some (aD K (Cd.d (v_165.1 : (List (List Int))))), some (aD K (Cd.d (v_166.1 : Int))), some (aD K (Cd.d (l_quiet_168 : Bool))), some (aD K (Cd.d (l_kept_173 : ((List (List Int)) × (List (List Int)))))), some (aD K (Cd.d (l_total_178 : Int))), some (aD K (Cd.d (l_metered_181 : Int))), some (aD K (Cd.d (l_billed_184 : Int))), some (aD K (Cd.d (l_settled_186 : Bool))), none, none] rfl (xg_bind fun v_187 hv_187 =>
  (xg_bind fun v_188 hv_188 =>
  (xg_ifR (u := []) (xt_k (xkc_ne (x := (v_187 : Wd)) (y := (v_188 : Wd)) hr.units (xe_call (xx := (v_165.1, l_metered_181, l_billed_184, l_settled_186)) c_bill_fault (hr.mono (by decide)) hv_187 (xl_of (xa_cons (xe_nm 4 rfl) (xa_cons (xe_nm 9 rfl) (xa_cons (xe_nm 10 rfl) (xa_cons (xe_nm 11 rfl) xa_nil))))) rfl (by simp) (by simp) (List.forall_mem_nil _) rfl rfl) (xe_call (xx := (l_total_178, l_metered_181, l_billed_184, l_settled_186)) c_l_bill (hr.mono (by decide)) hv_188 (xl_of (xa_cons (xe_nm 8 rfl) (xa_cons (xe_nm 9 rfl) (xa_cons (xe_nm 10 rfl) (xa_cons (xe_nm 11 rfl) xa_nil))))) rfl (by simp) (by simp) (List.forall_mem_nil _) rfl rfl) rdD rdD)) (fun _ => (xg_ret (A := aD K (Cd.d (false : Bool))) xe_bl (wk_k (wk_n (wk_n (wk_n (wk_n (wk_n (wk_n (wk_n (wk_n (wk_n (wk_n (wk_n (wk_n (wk_n (wk_n wk_0))))))))))))))))) (fun _ => (xg_ret (A := aD K (Cd.d ((decide (((s_164.1, v_165.1) : ((List (List Int)) × (List (List Int)))) = l_kept_173)) : Bool))) (xe_k (xkc_eq (x := ((s_164.1, v_165.1) : ((List (List Int)) × (List (List Int))))) (y := (l_kept_173 : ((List (List Int)) × (List (List Int))))) hr.units (xe_tup (ds := [Cd.d (s_164.1 : (List (List Int))), Cd.d (v_165.1 : (List (List Int)))]) (xa_cons (xe_nm 2 rfl) (xa_cons (xe_nm 4 rfl) xa_nil)) (Nat.le_of_ble_eq_true rfl)) (xe_nm 7 rfl) rdD rdD)) (wk_k (wk_n (wk_n (wk_n (wk_n (wk_n (wk_n (wk_n (wk_n (wk_n (wk_n (wk_n (wk_n (wk_n (wk_n wk_0)))))))))))))))))))))))))))))))))))))))))))))))))))))))))))))))))))))

theorem next_some (t : ((List Int) × Int × Int × Int)) (m : Int) (h : 0 ≤ t.2.1) (hm : 0 < m ∧ m < 2 ^ 64) : ∃ x t', m_l_next t m = some (x, t') ∧ (0 ≤ x ∧ x < m) ∧ 0 ≤ t'.2.1 := by
  obtain ⟨L, p, r, s⟩ := t
  have h : 0 ≤ p := h
  unfold m_l_next
  have dm : ∀ v, divM v m = some (v / m) := fun v => divM_some ⟨hm.1, hm.2⟩
  have rm : ∀ v : Int, 0 ≤ v % m ∧ v % m < m := fun v => ⟨Int.emod_nonneg _ (by omega), Int.emod_lt_of_pos _ hm.1⟩
  by_cases q : 0 < r
  · rw [if_pos (decide_eq_true q), dm, bsome, modM_some hm.1, bsome]
    exact ⟨_, _, rfl, rm _, h⟩
  · rw [if_neg (by simp [q])]
    obtain ⟨c, p', hp', e⟩ : ∃ (c p' : Int), 0 ≤ p' ∧ (if (decide (p < ((List.length L : Nat) : Int))) = true then
  (Option.bind (atI L p) fun x_9 =>
  (lett ((if x_9 < 0 then -x_9 else x_9) : Int) fun l_cell_10 =>
  (some (l_cell_10, ((L, (p + 1), r, s) : ((List Int) × Int × Int × Int)))))) else
  (some ((0 : Int), ((L, p, r, s) : ((List Int) × Int × Int × Int))))) = some (c, (L, p', r, s)) := by
      by_cases q2 : p < (L.length : Int)
      · obtain ⟨x, ex, _⟩ := atI_lt h q2
        rw [if_pos (decide_eq_true q2), ex, bsome, lett_eq]
        exact ⟨_, p + 1, by omega, rfl⟩
      · rw [if_neg (by simp [q2])]
        exact ⟨0, p, h, rfl⟩
    show ∃ x t', Option.bind _ _ = some (x, t') ∧ _
    simp only [] at e ⊢
    rw [e, bsome]
    by_cases q3 : 1000000000000000000 ≤ c
    · rw [if_pos (decide_eq_true q3), dm, bsome, modM_some hm.1, bsome]
      exact ⟨_, _, rfl, rm _, hp'⟩
    · rw [if_neg (by simp [q3]), lett_eq, modM_some hm.1, bsome]
      exact ⟨_, _, rfl, rm _, hp'⟩

theorem loop_eq (a b : List (List Int)) (hl : a.length ≤ b.length) : ∀ (n k : Nat), k + n = a.length → foldB (fun (s_145 : Unit) (l_index_146 : Int) =>
  (Option.bind (atI a l_index_146) fun x_147 =>
  (Option.bind (atI b l_index_146) fun x_148 =>
  (if (!(decide ((x_147 : (List Int)) = x_148))) = true then
  Option.map Sum.inl (some w_order) else
  (some (Sum.inr ())))))) (rangeI k n) () = some (if a.drop k = (b.drop k).take n then Sum.inr () else Sum.inl w_order)
  | 0, k, e => by
    rw [rangeI_zero, List.take_zero, List.drop_of_length_le (by omega), if_pos rfl]
    rfl
  | n + 1, k, e => by
    have ha : k < a.length := by omega
    have hb : k < b.length := by omega
    rw [rangeI_succ, List.drop_eq_getElem_cons ha, List.drop_eq_getElem_cons hb, List.take_succ_cons]
    show thenR _ _ _ = _
    dsimp only
    rw [atI_at, atI_at, List.getElem?_eq_getElem ha, List.getElem?_eq_getElem hb, bsome, bsome]
    by_cases q : a[k] = b[k]
    · rw [if_neg (by simp [q])]
      refine (thenR_r rfl).trans ?_
      rw [show (k : Int) + 1 = ((k + 1 : Nat) : Int) by omega, loop_eq a b hl n (k + 1) (by omega)]
      congr 1
      by_cases r : a.drop (k + 1) = (b.drop (k + 1)).take n
      · rw [if_pos r, if_pos (by rw [q, r])]
      · rw [if_neg r, if_neg (fun h => r (List.cons.inj h).2)]
    · rw [if_pos (by simp [q]), if_neg (fun h => q (List.cons.inj h).1)]
      rfl
theorem due_eq (a b : List (List Int)) (bound : Int) (q : Bool) (ha : a.length ≤ 1000) (hb : b.length ≤ 1000) : ∃ w, m_first_fault b a bound q = some w ∧ m_l_due b a bound q = some w := by
  unfold m_first_fault m_l_due
  rw [cutL_take (by omega), Int.toNat_natCast]
  by_cases hl : b.length < a.length
  · have : a ≠ b.take a.length := fun e => by
      have := congrArg List.length e
      rw [List.length_take] at this
      omega
    rw [if_pos (by simp [this]), if_pos (decide_eq_true (by omega))]
    exact ⟨_, rfl, rfl⟩
  · rw [if_neg (c := decide ((b.length : Int) < (a.length : Int)) = true) (by simp; omega), guardO_some (by omega), bsome]
    have lp := loop_eq a b (by omega) a.length 0 (by omega)
    rw [List.drop_zero, List.drop_zero, Int.natCast_zero] at lp
    by_cases e : a = b.take a.length
    · rw [if_pos e] at lp
      rw [if_neg (by simp [← e]), thenR_r lp, lett_eq]
      by_cases q1 : bound < (b.length : Int) - (a.length : Int)
      · simp only [decide_eq_true q1, eq_self, if_true]
        exact ⟨_, rfl, rfl⟩
      · simp only [decide_eq_false q1, Bool.false_eq_true, if_false]
        have : decide (0 < (b.length : Int) - (a.length : Int)) = decide ((a.length : Int) < (b.length : Int)) := decide_eq_decide.mpr (by omega)
        rw [this]
        by_cases q2 : (q && decide ((a.length : Int) < (b.length : Int))) = true
        · rw [if_pos q2]
          exact ⟨_, rfl, rfl⟩
        · rw [if_neg q2]
          exact ⟨_, rfl, rfl⟩
    · rw [if_neg e] at lp
      rw [if_pos (by simp [e]), thenR_l lp]
      exact ⟨_, rfl, rfl⟩
theorem lens_some (a : List (List Int)) (ha : a.length ≤ 1000) : mapO (fun packet_2 : (List Int) => (some ((List.length packet_2 : Nat) : Int))) a = some (a.map fun p => ((p.length : Nat) : Int)) := mapO_some (by omega) fun _ _ => rfl
theorem copy_some (a : List (List Int)) (ha : a.length ≤ 1000) : mapO (fun packet_2 : (List Int) => (some packet_2)) a = some a := by
  exact (mapO_some (g := id) (by omega) fun _ _ => rfl).trans (by rw [List.map_id])
theorem bill_eq (a : List (List Int)) (ha : a.length ≤ 1000) (m b : Int) (s : Bool) : ∃ w, m_bill_fault a m b s = some w ∧ m_l_bill (a.map fun p => ((p.length : Nat) : Int)).sum m b s = some w := by
  unfold m_bill_fault m_l_bill
  rw [lens_some a ha, bsome]
  by_cases e : m = (a.map fun p => ((p.length : Nat) : Int)).sum
  · simp only [decide_eq_true e, Bool.not_true, Bool.false_eq_true, if_false]
    by_cases q : m < b
    · simp only [decide_eq_true q, eq_self, if_true]
      exact ⟨_, rfl, rfl⟩
    · simp only [decide_eq_false q, Bool.false_eq_true, if_false]
      have : (!(decide (b = m))) = decide (b < m) := by
        by_cases r : b = m
        · subst r; simp
        · rw [decide_eq_false r, decide_eq_true (by omega)]; rfl
      rw [this]
      by_cases q2 : (s && decide (b < m)) = true
      · rw [if_pos q2]
        exact ⟨_, rfl, rfl⟩
      · rw [if_neg q2]
        exact ⟨_, rfl, rfl⟩
  · simp only [decide_eq_false e, Bool.not_false, eq_self, if_true]
    exact ⟨_, rfl, rfl⟩
def Small (a : List (List Int)) : Prop := ∀ x ∈ a, x.length ≤ 10
theorem out_some (t : ((List Int) × Int × Int × Int)) (h : 0 ≤ t.2.1) (b : List (List Int)) (hb : b.length ≤ 10) (hs : Small b) : ∃ a t', m_l_out t b = some (a, t') ∧ a.length ≤ 12 ∧ 0 ≤ t'.2.1 := by
  unfold m_l_out
  obtain ⟨x, t1, e1, hx, h1⟩ := next_some t (((List.length b : Nat) : Int) + 1) h ⟨by omega, by omega⟩
  obtain ⟨k, t2, e2, hk, h2⟩ := next_some t1 9 h1 ⟨by omega, by omega⟩
  rw [e1, bsome, cutL_take (by simpa using hx.1), copy_some _ (by rw [List.length_take]; omega), bsome]
  simp only []
  rw [e2, bsome]
  simp only []
  have ha : (b.take x.toNat).length ≤ 10 := by rw [List.length_take]; omega
  have hsa : Small (b.take x.toNat) := fun y hy => hs y (List.mem_of_mem_take hy)
  generalize b.take x.toNat = a at ha hsa
  by_cases q : ((decide ((a : (List (List Int))) = [])) || (decide (k < 4))) = true
  · rw [if_pos q]
    exact ⟨_, _, rfl, by omega, h2⟩
  · rw [if_neg q]
    have q := (Bool.not_eq_true _).mp q
    simp only [Bool.or_eq_false_iff, decide_eq_false_iff_not] at q
    have hn : 0 < a.length := List.length_pos_iff.mpr q.1
    obtain ⟨pl, t3, e3, hp, h3⟩ := next_some t2 ((List.length a : Nat) : Int) h2 ⟨by omega, by omega⟩
    rw [e3, bsome]
    simp only []
    obtain ⟨y, ey, hy⟩ := atI_lt (xs := a) hp.1 hp.2
    have hyl := hsa y hy
    have hix := ixN_nn (n := a.length) hp.1 hp.2
    have hpop : popL a pl = some (y, a.eraseIdx pl.toNat) := by
      unfold popL
      have e : seqIndex? pl a.length = some pl.toNat := by
        unfold seqIndex?
        simp only [show ¬ pl < 0 by omega, if_false]
        exact if_pos (by simp; omega)
      rw [atI_nn hp.1] at ey
      rw [if_pos (by omega), e, bsome, ey, bsome]
    have hins : insL a pl y = some (a.take pl.toNat ++ [y] ++ a.drop pl.toNat) := by
      unfold insL
      rw [if_pos (by omega)]
    have g1 : guardO (y.length + [(7 : Int)].length ≤ 1000000) = some () := guardO_some (by simp; omega)
    have g2 : guardO (a.length < 1000000) = some () := guardO_some (by omega)
    by_cases k4 : k = 4
    · simp only [ey, hix, bsome, lett_eq, decide_eq_true k4, if_true]
      rw [guardO_some (by simp; omega)]
      exact ⟨a.set pl.toNat (y ++ [7]), t3, rfl, by rw [List.length_set]; omega, h3⟩
    simp only [decide_eq_false k4, Bool.false_eq_true, if_false]
    by_cases k5 : k = 5
    · simp only [hpop, bsome, decide_eq_true k5, if_true]
      exact ⟨a.eraseIdx pl.toNat, t3, rfl, by rw [List.length_eraseIdx]; split <;> omega, h3⟩
    simp only [decide_eq_false k5, Bool.false_eq_true, if_false]
    by_cases k6 : k = 6
    · simp only [ey, hins, bsome, decide_eq_true k6, if_true]
      exact ⟨_, _, rfl, by simp; omega, h3⟩
    simp only [decide_eq_false k6, Bool.false_eq_true, if_false]
    by_cases k7 : k = 7
    · obtain ⟨z, t4, e4, _, h4⟩ := next_some t3 4 h3 ⟨by omega, by omega⟩
      simp only [e4, g2, bsome, decide_eq_true k7, if_true]
      exact ⟨_, _, rfl, by simp; omega, h4⟩
    · obtain ⟨z, t4, e4, hz, h4⟩ := next_some t3 ((List.length a : Nat) : Int) h3 ⟨by omega, by omega⟩
      obtain ⟨w, ew, _⟩ := atI_lt (xs := a) hz.1 hz.2
      simp only [e4, ew, hix, bsome, decide_eq_false k7, Bool.false_eq_true, if_false]
      exact ⟨_, _, rfl, by rw [List.length_set]; omega, h4⟩
theorem law_true (ns : List Int) (h : ns.length ≤ 63) : m_law ns = some true := by
  unfold m_law
  obtain ⟨n, t0, e0, hn, h0⟩ := next_some (ns, 0, 0, 5) 10 (Int.le_refl 0) ⟨by omega, by omega⟩
  rw [e0, bsome, guardO_some (by simp only []; omega), bsome]
  simp only []
  obtain ⟨⟨b, t1⟩, eb, hb1, hb2, h1⟩ := foldM_idx (f := fun (s_154 : ((List (List Int)) × ((List Int) × Int × Int × Int))) (l_turn_155 : Int) =>
  (Option.bind (m_l_next s_154.2 4) fun v_156 =>
  (Option.bind (guardO (-(2 ^ 62) ≤ (1 + v_156.1) ∧ (1 + v_156.1) < 2 ^ 62)) fun g_157 =>
  (Option.bind (mapS (fun (s_159 : ((List Int) × Int × Int × Int)) (l_k_158 : Int) => (Option.bind (m_l_next s_159 3) fun v_160 => (some (v_160.1, v_160.2)))) (rangeI 0 (Int.toNat (1 + v_156.1))) v_156.2) fun ys_162 =>
  (Option.bind (guardO (List.length s_154.1 < 1000000)) fun g_163 =>
  (some ((s_154.1 ++ [ys_162.1]), ys_162.2))))))) (fun i s => s.1.length = i ∧ Small s.1 ∧ 0 ≤ s.2.2.1) (xs := rangeI 0 n.toNat) (n := 0) (s := ([], t0)) ⟨rfl, (fun _ h => by simp at h), h0⟩ (by
    rintro i x ⟨b, t⟩ hi ⟨h1, h2, h3⟩
    have hi' : i < (rangeI 0 n.toNat).length := (List.getElem?_eq_some_iff.mp hi).1
    rw [rangeI_len] at hi'
    have h1 : b.length = 0 + i := h1
    obtain ⟨m, t2, e2, hm, h4⟩ := next_some t 4 h3 ⟨by omega, by omega⟩
    simp only []
    rw [e2, bsome, guardO_some (by simp only []; omega), bsome]
    simp only []
    obtain ⟨ys, t3, e3, h5, f⟩ := mapS_inv (f := fun (s_159 : ((List Int) × Int × Int × Int)) (l_k_158 : Int) => (Option.bind (m_l_next s_159 3) fun v_160 => (some (v_160.1, v_160.2)))) (fun t => 0 ≤ t.2.1) (fun _ _ => True) (xs := rangeI 0 (1 + m).toNat) (s := t2) (by rw [rangeI_len]; omega) h4 (fun x s _ hs => by
      obtain ⟨m, t2, e2, hm, h4⟩ := next_some s 3 hs ⟨by omega, by omega⟩
      rw [e2, bsome]
      exact ⟨_, _, rfl, h4, trivial⟩)
    rw [e3, bsome, guardO_some (by omega), bsome]
    refine ⟨_, rfl, by simp; omega, ?_, h5⟩
    intro y hy
    rcases List.mem_append.mp hy with q | q
    · exact h2 y q
    · have : y = ys := by simpa using q
      subst this
      have := f.len
      rw [rangeI_len] at this
      omega)
  rw [eb, bsome]
  have hb1 : b.length = 0 + (rangeI 0 n.toNat).length := hb1
  rw [rangeI_len] at hb1
  obtain ⟨a, t2, e2, ha, h2⟩ := out_some t1 h1 b (by omega) hb2
  obtain ⟨bd, t3, e3, _, h3⟩ := next_some t2 10 h2 ⟨by omega, by omega⟩
  obtain ⟨qt, t4, e4, _, h4⟩ := next_some t3 2 h3 ⟨by omega, by omega⟩
  obtain ⟨x5, t5, e5, r5, h5⟩ := next_some t4 5 h4 ⟨by omega, by omega⟩
  obtain ⟨x6, t6, e6, r6, h6⟩ := next_some t5 5 h5 ⟨by omega, by omega⟩
  obtain ⟨x7, t7, e7, r7, h7⟩ := next_some t6 2 h6 ⟨by omega, by omega⟩
  simp only []
  rw [e2, bsome]
  simp only []
  rw [e3, bsome]
  simp only []
  rw [e4, bsome, lett_eq]
  simp only []
  obtain ⟨w, w1, w2⟩ := due_eq a b bd (decide (qt = 0)) (by omega) (by omega)
  rw [copy_some b (by omega), bsome, copy_some a (by omega), bsome, lett_eq, w1, bsome, w2, bsome, if_neg (by simp), lens_some a (by omega), bsome, lett_eq, e5, bsome]
  simp only []
  obtain ⟨y5, f5, _⟩ := atI_lt (xs := [0, 0, 0, 1, (-1)]) r5.1 (by simpa using r5.2)
  obtain ⟨y6, f6, _⟩ := atI_lt (xs := [0, 0, 1, (-1), (-2)]) r6.1 (by simpa using r6.2)
  rw [f5, bsome, lett_eq, e6, bsome]
  simp only []
  rw [f6, bsome, lett_eq, e7, bsome, lett_eq]
  simp only []
  obtain ⟨w, w1, w2⟩ := bill_eq a (by omega) ((a.map fun p => ((p.length : Nat) : Int)).sum + y5) ((a.map fun p => ((p.length : Nat) : Int)).sum + y5 + y6) (decide (x7 = 0))
  rw [w1, bsome, w2, bsome, if_neg (by simp)]
  simp

theorem all_mk {l : PySem.W.OpenLaw} {w : World} {K : PySem.W.Frag} {h : Heap} {mg : Str → Option Value} {fa f0 f1 f2 f3 f4 f5 f6 : Addr} (X : K.In h) (G : h.Ns mainGlobals mg) (hfa : mg "law" = some (.ref fa))
    {od0 an0 : Option Addr} {sl0 : Array (Option Value)} {oc0 kV0 dc0 pm0 cd0 ct0 : Value} {od1 an1 : Option Addr} {sl1 : Array (Option Value)} {oc1 kV1 dc1 pm1 cd1 ct1 : Value} {od2 an2 : Option Addr} {sl2 : Array (Option Value)} {oc2 kV2 dc2 pm2 cd2 ct2 : Value} {od3 an3 : Option Addr} {sl3 : Array (Option Value)} {oc3 kV3 dc3 pm3 cd3 ct3 : Value} {od4 an4 : Option Addr} {sl4 : Array (Option Value)} {oc4 kV4 dc4 pm4 cd4 ct4 : Value} {od5 an5 : Option Addr} {sl5 : Array (Option Value)} {oc5 kV5 dc5 pm5 cd5 ct5 : Value} {od6 an6 : Option Addr} {sl6 : Array (Option Value)} {oc6 kV6 dc6 pm6 cd6 ct6 : Value}
    (a0 : PySem.W.nsIn K mainGlobals "first_fault" = some (some (.ref f0))) (l0 : K.lookup f0 = some ⟨oc0, od0, .func (PySem.W.fnOf "first_fault" "first_fault" (defArgs s_first_fault) (defBody s_first_fault) (defScope s_first_fault) .none kV0 dc0 pm0 an0 cd0 ct0), sl0⟩) (c0 : PySem.W.codeIn K cd0 "first_fault" = true) (k0 : PySem.W.keepIn K (.ref f0) = true)
    (a1 : PySem.W.nsIn K mainGlobals "bill_fault" = some (some (.ref f1))) (l1 : K.lookup f1 = some ⟨oc1, od1, .func (PySem.W.fnOf "bill_fault" "bill_fault" (defArgs s_bill_fault) (defBody s_bill_fault) (defScope s_bill_fault) .none kV1 dc1 pm1 an1 cd1 ct1), sl1⟩) (c1 : PySem.W.codeIn K cd1 "bill_fault" = true) (k1 : PySem.W.keepIn K (.ref f1) = true)
    (a2 : PySem.W.nsIn K mainGlobals "_law_next" = some (some (.ref f2))) (l2 : K.lookup f2 = some ⟨oc2, od2, .func (PySem.W.fnOf "_law_next" "_law_next" (defArgs s_l_next) (defBody s_l_next) (defScope s_l_next) .none kV2 dc2 pm2 an2 cd2 ct2), sl2⟩) (c2 : PySem.W.codeIn K cd2 "_law_next" = true) (k2 : PySem.W.keepIn K (.ref f2) = true)
    (a3 : PySem.W.nsIn K mainGlobals "_law_out" = some (some (.ref f3))) (l3 : K.lookup f3 = some ⟨oc3, od3, .func (PySem.W.fnOf "_law_out" "_law_out" (defArgs s_l_out) (defBody s_l_out) (defScope s_l_out) .none kV3 dc3 pm3 an3 cd3 ct3), sl3⟩) (c3 : PySem.W.codeIn K cd3 "_law_out" = true) (k3 : PySem.W.keepIn K (.ref f3) = true)
    (a4 : PySem.W.nsIn K mainGlobals "_law_due" = some (some (.ref f4))) (l4 : K.lookup f4 = some ⟨oc4, od4, .func (PySem.W.fnOf "_law_due" "_law_due" (defArgs s_l_due) (defBody s_l_due) (defScope s_l_due) .none kV4 dc4 pm4 an4 cd4 ct4), sl4⟩) (c4 : PySem.W.codeIn K cd4 "_law_due" = true) (k4 : PySem.W.keepIn K (.ref f4) = true)
    (a5 : PySem.W.nsIn K mainGlobals "_law_bill" = some (some (.ref f5))) (l5 : K.lookup f5 = some ⟨oc5, od5, .func (PySem.W.fnOf "_law_bill" "_law_bill" (defArgs s_l_bill) (defBody s_l_bill) (defScope s_l_bill) .none kV5 dc5 pm5 an5 cd5 ct5), sl5⟩) (c5 : PySem.W.codeIn K cd5 "_law_bill" = true) (k5 : PySem.W.keepIn K (.ref f5) = true)
    (a6 : PySem.W.nsIn K mainGlobals "law" = some (some (.ref f6))) (l6 : K.lookup f6 = some ⟨oc6, od6, .func (PySem.W.fnOf "law" "law" (defArgs s_law) (defBody s_law) (defScope s_law) .none kV6 dc6 pm6 an6 cd6 ct6), sl6⟩) (c6 : PySem.W.codeIn K cd6 "law" = true) (k6 : PySem.W.keepIn K (.ref f6) = true)
    (z0 : PySem.W.nsIn K mainGlobals "abs" = some none)
    (z1 : PySem.W.nsIn K mainGlobals "int" = some none)
    (z2 : PySem.W.nsIn K mainGlobals "len" = some none)
    (z3 : PySem.W.nsIn K mainGlobals "list" = some none)
    (z4 : PySem.W.nsIn K mainGlobals "range" = some none)
    (z5 : PySem.W.nsIn K mainGlobals "sum" = some none)
    : ∃ fd : FuncData, (∀ (s : Shared) (v : Value), BindsTo s fd ⟨[v], []⟩ [("_law_script", v)]) ∧ ∀ base : Heap, K.In base → base.Ns mainGlobals mg → FnOk l.prog w K mg base CX0 3 fa fd ["_law_script"] (sp_law K) := by
  have e := hfa.symm.trans (PySem.W.mg_of X G a6)
  cases e
  have F0 := fun_mk (st := s_first_fault) l0 c0 k0
  have F1 := fun_mk (st := s_bill_fault) l1 c1 k1
  have F2 := fun_mk (st := s_l_next) l2 c2 k2
  have F3 := fun_mk (st := s_l_out) l3 c3 k3
  have F4 := fun_mk (st := s_l_due) l4 c4 k4
  have F5 := fun_mk (st := s_l_bill) l5 c5 k5
  have F6 := fun_mk (st := s_law) l6 c6 k6
  have m_abs := PySem.W.mg_none_of X G z0
  have m_int := PySem.W.mg_none_of X G z1
  have m_len := PySem.W.mg_none_of X G z2
  have m_list := PySem.W.mg_none_of X G z3
  have m_range := PySem.W.mg_none_of X G z4
  have m_sum := PySem.W.mg_none_of X G z5
  refine ⟨PySem.W.fnOf "law" "law" (defArgs s_law) (defBody s_law) (defScope s_law) .none kV6 dc6 pm6 an6 cd6 ct6, fun s v => .of_eq rfl, fun base _ _ => ?_⟩
  have c_first_fault : Cal l.prog w K mg base 1 "first_fault" (sp_first_fault K) := ⟨f0, _, _, ok_first_fault F0 m_len, PySem.W.mg_of X G a0, k0, F0.binds (ps := ["went_in", "came_out", "bound", "quiet"]) fun _ _ _ _ _ _ us hl => match us, hl with | [_, _, _, _], _ => rfl⟩
  have c_bill_fault : Cal l.prog w K mg base 1 "bill_fault" (sp_bill_fault K) := ⟨f1, _, _, ok_bill_fault F1 m_len m_sum, PySem.W.mg_of X G a1, k1, F1.binds (ps := ["packets", "metered", "billed", "is_settled"]) fun _ _ _ _ _ _ us hl => match us, hl with | [_, _, _, _], _ => rfl⟩
  have c_l_next : Cal l.prog w K mg base 1 "_law_next" (sp_l_next K) := ⟨f2, _, _, ok_l_next F2 m_abs m_int m_len, PySem.W.mg_of X G a2, k2, F2.binds (ps := ["_law_tape", "_law_many"]) fun _ _ _ _ _ _ us hl => match us, hl with | [_, _], _ => rfl⟩
  have c_l_out : Cal l.prog w K mg base 2 "_law_out" (sp_l_out K) := ⟨f3, _, _, ok_l_out F3 m_len m_list c_l_next, PySem.W.mg_of X G a3, k3, F3.binds (ps := ["_law_tape", "_law_went_in"]) fun _ _ _ _ _ _ us hl => match us, hl with | [_, _], _ => rfl⟩
  have c_l_due : Cal l.prog w K mg base 1 "_law_due" (sp_l_due K) := ⟨f4, _, _, ok_l_due F4 m_len m_range, PySem.W.mg_of X G a4, k4, F4.binds (ps := ["_law_went_in", "_law_out_here", "_law_bound", "_law_quiet"]) fun _ _ _ _ _ _ us hl => match us, hl with | [_, _, _, _], _ => rfl⟩
  have c_l_bill : Cal l.prog w K mg base 1 "_law_bill" (sp_l_bill K) := ⟨f5, _, _, ok_l_bill F5 , PySem.W.mg_of X G a5, k5, F5.binds (ps := ["_law_total", "_law_metered", "_law_billed", "_law_settled"]) fun _ _ _ _ _ _ us hl => match us, hl with | [_, _, _, _], _ => rfl⟩
  exact ok_law F6 m_len m_list m_range m_sum c_l_bill c_l_due c_l_next c_l_out c_bill_fault c_first_fault
end MyLaw
open PySem PySem.W PyProof.Rows
set_option maxHeartbeats 0 in
theorem PySem.Challenge.cw_bearerwise_k17_judging_packets_and_bills_holds : PySem.Challenge.rw_bearerwise_k17_judging_packets_and_bills.Holds := by
  w_on; o_law; k_head; (case hw => w_witness2)
  k_fill
  refine L2.walk_of (l := PySem.Challenge.rw_bearerwise_k17_judging_packets_and_bills) (n := 63) (k := 3) (x := "_law_script") (CX := fun _ => L2.CX0) (sp := fun w => MyLaw.sp_law _) rfl (by decide) rfl ⟨rfl, by decide, by decide⟩ (fun w h Y => PySem.W.kIn_of Y) ?F (fun w H a ns hl hO hS => Mr.law_sp hl hS (MyLaw.law_true ns hl)) (fun _ _ _ _ _ h => h)
  case F =>
    intro w mg fa h KX G hmg
    refine' MyLaw.all_mk KX G hmg ?a0 ?l0 ?c0 ?k0 ?a1 ?l1 ?c1 ?k1 ?a2 ?l2 ?c2 ?k2 ?a3 ?l3 ?c3 ?k3 ?a4 ?l4 ?c4 ?k4 ?a5 ?l5 ?c5 ?k5 ?a6 ?l6 ?c6 ?k6 ?z0 ?z1 ?z2 ?z3 ?z4 ?z5
    (case a0 => k_is); (case l0 => k_is); (case c0 => k_is); (case k0 => k_is); (case a1 => k_is); (case l1 => k_is); (case c1 => k_is); (case k1 => k_is); (case a2 => k_is); (case l2 => k_is); (case c2 => k_is); (case k2 => k_is); (case a3 => k_is); (case l3 => k_is); (case c3 => k_is); (case k3 => k_is); (case a4 => k_is); (case l4 => k_is); (case c4 => k_is); (case k4 => k_is); (case a5 => k_is); (case l5 => k_is); (case c5 => k_is); (case k5 => k_is); (case a6 => k_is); (case l6 => k_is); (case c6 => k_is); (case k6 => k_is); (case z0 => k_is); (case z1 => k_is); (case z2 => k_is); (case z3 => k_is); (case z4 => k_is); (case z5 => k_is)
