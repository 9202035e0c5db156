import PyProof.Rows.All
import Wide.All
import OpenK.AllK
import Wide.FinOn
import HandS.ForMost
import HandS.Evl
import HandS.IsInst
import HandS.Wide
import HandS.More
import HandS.SetFor
import HandS.SortInts
import HandS.TupSets
import HandS.ExcOwn
import HandS.ExcIs
import HandS.WordsExc
import HandS.TryOnly
import HandS.TupLe
import HandS.Style
import HandS.WideBits
import KE.DataMinMax
import HandS.SortKw
import HandS.DictComp
import HandS.Deep
import HandS.SetKeys
import HandS.Flow
import HandS.Conv
import HandS.Text
import PySem.Challenge.RW_bearerwise_k39_bills
set_option Elab.async false
set_option linter.all false
set_option maxRecDepth 100000
set_option synthInstance.maxSize 1000
set_option synthInstance.maxHeartbeats 400000
namespace Mr
open PySem PySem.Spec PyProof.Rows L2
def Ex (H H' : Hp) : Prop := ∀ a o, H a = some o → H' a = some o
theorem Ex.refl (H : Hp) : Ex H H := fun _ _ h => h
theorem Ex.trans {H H1 H2 : Hp} (a : Ex H H1) (b : Ex H1 H2) : Ex H H2 := fun x o h => b x o (a x o h)
theorem Ex.new {H : Hp} {p : Addr} {o : HO} (h : H p = none) : Ex H (upd H p o) := fun a u e => by
  rw [upd_ne (ne_of_none e h)]
  exact e
theorem Ex.rd {H H' : Hp} {a : Addr} {u : HO} (e : Ex H H') (h : Rd H a u) : Rd H' a u := by
  rcases h with h | ⟨o, h⟩
  · exact Or.inl (e a _ h)
  · exact Or.inr ⟨o, e a _ h⟩
theorem Ex.sl {K : PySem.W.Frag} {H H' : Hp} {a : Addr} {xs : List V} (e : Ex H H') (h : SqL K H a xs) : SqL K H' a xs := by
  rcases h with h | h
  · exact Or.inl (e.rd h)
  · exact Or.inr h
theorem Ex.st {K : PySem.W.Frag} {H H' : Hp} {a : Addr} {xs : List V} (e : Ex H H') (h : SqT K H a xs) : SqT K H' a xs := by
  rcases h with h | h
  · exact Or.inl (e.rd h)
  · exact Or.inr h
mutual
inductive Dq (K : PySem.W.Frag) (G : Hp) : V → PyData → Prop
  | non : Dq K G .non .none
  | bl (b : Bool) : Dq K G (.bl b) (.bool b)
  | int (i : Int) : Dq K G (.int i) (.int i)
  | str (x : Str) : Dq K G (.str x) (.str x)
  | lst {a : Addr} {xs : List V} {ds : List PyData} : G a = some (.lst xs) → DqAll K G xs ds → Dq K G (.ref a) (.list ds)
  | tup {a : Addr} {xs : List V} {ds : List PyData} : SqT K G a xs → DqAll K G xs ds → Dq K G (.ref a) (.tuple ds)
inductive DqAll (K : PySem.W.Frag) (G : Hp) : List V → List PyData → Prop
  | nil : DqAll K G [] []
  | cons {v : V} {vs : List V} {d : PyData} {ds : List PyData} : Dq K G v d → DqAll K G vs ds → DqAll K G (v :: vs) (d :: ds)
end
section
variable {K : PySem.W.Frag} {G G' H : Hp}
mutual
theorem Dq.mono (e : Ex G G') : ∀ (d : PyData) (v : V), Dq K G v d → Dq K G' v d
  | .none, _, h => by cases h; exact .non
  | .bool b, _, h => by cases h; exact .bl b
  | .int i, _, h => by cases h; exact .int i
  | .str x, _, h => by cases h; exact .str x
  | .list ds, _, h => by
    cases h with
    | lst h1 h2 => exact .lst (e _ _ h1) (DqAll.mono e ds _ h2)
  | .tuple ds, _, h => by
    cases h with
    | tup h1 h2 => exact .tup (e.st h1) (DqAll.mono e ds _ h2)
  | .dict _, _, h => by cases h
theorem DqAll.mono (e : Ex G G') : ∀ (ds : List PyData) (vs : List V), DqAll K G vs ds → DqAll K G' vs ds
  | [], _, h => by cases h; exact .nil
  | d :: ds, _, h => by
    cases h with
    | cons h1 h2 => exact .cons (Dq.mono e d _ h1) (DqAll.mono e ds _ h2)
end
mutual
theorem Dq.dp : ∀ (d : PyData) (v : V), Dq K G v d → Dp K G v d
  | .none, _, h => by cases h; exact .non
  | .bool b, _, h => by cases h; exact .bl b
  | .int i, _, h => by cases h; exact .int i
  | .str x, _, h => by cases h; exact .str x
  | .list ds, _, h => by
    cases h with
    | lst h1 h2 => exact .lst (.inl (.inl h1)) (DqAll.dp ds _ h2)
  | .tuple ds, _, h => by
    cases h with
    | tup h1 h2 => exact .tup h1 (DqAll.dp ds _ h2)
  | .dict _, _, h => by cases h
theorem DqAll.dp : ∀ (ds : List PyData) (vs : List V), DqAll K G vs ds → DpAll K G vs ds
  | [], _, h => by cases h; exact .nil
  | d :: ds, _, h => by
    cases h with
    | cons h1 h2 => exact .cons (Dq.dp d _ h1) (DqAll.dp ds _ h2)
end
theorem DqAll.len : ∀ {ds : List PyData} {vs : List V}, DqAll K G vs ds → vs.length = ds.length
  | [], _, h => by cases h; rfl
  | d :: ds, _, h => by
    cases h with
    | cons h1 h2 => exact congrArg (· + 1) h2.len
theorem DqAll.get : ∀ {ds : List PyData} {vs : List V} {i : Nat} {d : PyData}, DqAll K G vs ds → ds[i]? = some d → ∃ v, vs[i]? = some v ∧ Dq K G v d
  | [], _, _, _, h, e => by simp at e
  | d :: ds, _, 0, _, h, e => by
    cases h with
    | cons h1 h2 => simp at e; subst e; exact ⟨_, rfl, h1⟩
  | d :: ds, _, i + 1, _, h, e => by
    cases h with
    | cons h1 h2 =>
      obtain ⟨v, a, b⟩ := h2.get (i := i) (by simpa using e)
      exact ⟨v, by simpa using a, b⟩
theorem DqAll.append : ∀ {ds es : List PyData} {vs us : List V}, DqAll K G vs ds → DqAll K G us es → DqAll K G (vs ++ us) (ds ++ es)
  | [], _, _, _, h, q => by cases h; exact q
  | d :: ds, _, _, _, h, q => by
    cases h with
    | cons h1 h2 => exact .cons h1 (h2.append q)
theorem DqAll.take : ∀ {ds : List PyData} {vs : List V} (n : Nat), DqAll K G vs ds → DqAll K G (vs.take n) (ds.take n)
  | _, _, 0, _ => .nil
  | [], _, _ + 1, h => by cases h; exact .nil
  | d :: ds, _, n + 1, h => by
    cases h with
    | cons h1 h2 => exact .cons h1 (h2.take n)
theorem DqAll.drop : ∀ {ds : List PyData} {vs : List V} (n : Nat), DqAll K G vs ds → DqAll K G (vs.drop n) (ds.drop n)
  | _, _, 0, h => h
  | [], _, _ + 1, h => by cases h; exact .nil
  | d :: ds, _, n + 1, h => by
    cases h with
    | cons h1 h2 => exact h2.drop n
end
structure OA where
  P : Hp → Hp → V → List Addr → Prop
  mono : ∀ {G H G' H' : Hp} {v : V} {F : List Addr}, P G H v F → Ex G G' → Ex G' H' → (∀ b ∈ F, ∀ o, H b = some o → H' b = some o) → P G' H' v F
def Cs (G H : Hp) : List (Option OA) → List (Option V) → List Addr → Prop
  | [], [], F => F = []
  | none :: ρ, _ :: σ, F => Cs G H ρ σ F
  | some A :: ρ, x :: σ, F => ∃ v F1 F2, x = some v ∧ F = F1 ++ F2 ∧ A.P G H v F1 ∧ Cs G H ρ σ F2
  | _, _, _ => False
theorem Cs.mono {G H G' H' : Hp} (e : Ex G G') (e' : Ex G' H') : ∀ {ρ : List (Option OA)} {σ : List (Option V)} {F : List Addr}, Cs G H ρ σ F → (∀ b ∈ F, ∀ o, H b = some o → H' b = some o) → Cs G' H' ρ σ F
  | [], [], _, h, _ => h
  | [], _ :: _, _, h, _ => h.elim
  | none :: _, [], _, h, _ => h.elim
  | some _ :: _, [], _, h, _ => h.elim
  | none :: ρ, _ :: σ, _, h, k => Cs.mono e e' (ρ := ρ) (σ := σ) h k
  | some A :: ρ, x :: σ, _, h, k => by
    obtain ⟨v, F1, F2, e1, e2, a, c⟩ := h
    subst e2
    exact ⟨v, F1, F2, e1, rfl, A.mono a e e' fun b hb => k b (List.mem_append_left _ hb), Cs.mono e e' c fun b hb => k b (List.mem_append_right _ hb)⟩
theorem Cs.len {G H : Hp} : ∀ {ρ : List (Option OA)} {σ : List (Option V)} {F : List Addr}, Cs G H ρ σ F → ρ.length = σ.length
  | [], [], _, _ => rfl
  | [], _ :: _, _, h => h.elim
  | none :: _, [], _, h => h.elim
  | some _ :: _, [], _, h => h.elim
  | none :: ρ, _ :: σ, _, h => congrArg (· + 1) (Cs.len (ρ := ρ) (σ := σ) h)
  | some A :: ρ, x :: σ, _, h => by
    obtain ⟨v, F1, F2, e1, e2, a, c⟩ := h
    exact congrArg (· + 1) c.len
theorem Cs.split {G H : Hp} : ∀ {ρ : List (Option OA)} {σ : List (Option V)} {F : List Addr} {i : Nat} {A : OA}, Cs G H ρ σ F → ρ[i]? = some (some A) →
    ∃ v F1 F2, σ[i]? = some (some v) ∧ F.Perm (F1 ++ F2) ∧ A.P G H v F1 ∧ Cs G H (ρ.set i none) σ F2
  | [], _, _, _, _, _, e => by simp at e
  | none :: _, [], _, _, _, h, _ => h.elim
  | some _ :: _, [], _, _, _, h, _ => h.elim
  | none :: ρ, x :: σ, F, 0, A, h, e => by simp at e
  | none :: ρ, x :: σ, F, i + 1, A, h, e => by
    obtain ⟨v, F1, F2, a, b, c, d⟩ := Cs.split (ρ := ρ) (σ := σ) (i := i) (A := A) h (by simpa using e)
    exact ⟨v, F1, F2, by simpa using a, b, c, d⟩
  | some B :: ρ, x :: σ, F, 0, A, h, e => by
    obtain ⟨v, F1, F2, e1, e2, a, c⟩ := h
    simp at e
    subst e e1 e2
    exact ⟨v, F1, F2, rfl, .refl _, a, c⟩
  | some B :: ρ, x :: σ, F, i + 1, A, h, e => by
    obtain ⟨v, F1, F2, e1, e2, a, c⟩ := h
    obtain ⟨u, F3, F4, b1, b2, b3, b4⟩ := Cs.split (i := i) (A := A) c (by simpa using e)
    subst e1 e2
    refine ⟨u, F3, F1 ++ F4, by simpa using b1, ?_, b3, v, F1, F4, rfl, rfl, a, b4⟩
    refine (List.Perm.append_left F1 b2).trans ?_
    rw [← List.append_assoc, ← List.append_assoc]
    exact List.Perm.append_right F4 List.perm_append_comm
theorem Cs.join {G H : Hp} : ∀ {ρ : List (Option OA)} {σ : List (Option V)} {F2 : List Addr} {i : Nat} {A : OA} {v : V} {F1 : List Addr}, Cs G H (ρ.set i none) σ F2 → i < ρ.length → A.P G H v F1 →
    ∃ F, F.Perm (F1 ++ F2) ∧ Cs G H (ρ.set i (some A)) (σ.set i (some v)) F
  | [], _, _, _, _, _, _, _, l, _ => by simp at l
  | _ :: ρ, [], _, 0, _, _, _, h, _, _ => h.elim
  | none :: ρ, [], _, i + 1, _, _, _, h, _, _ => h.elim
  | some _ :: ρ, [], _, i + 1, _, _, _, h, _, _ => h.elim
  | _ :: ρ, x :: σ, F2, 0, A, v, F1, h, _, a => ⟨F1 ++ F2, .refl _, v, F1, F2, rfl, rfl, a, h⟩
  | none :: ρ, x :: σ, F2, i + 1, A, v, F1, h, l, a => by
    obtain ⟨F, p, q⟩ := Cs.join (ρ := ρ) (σ := σ) (i := i) (A := A) (v := v) (F1 := F1) (F2 := F2) h (by simpa using l) a
    exact ⟨F, p, q⟩
  | some B :: ρ, x :: σ, F2, i + 1, A, v, F1, h, l, a => by
    obtain ⟨u, F3, F4, e1, e2, b, c⟩ := h
    obtain ⟨F, p, q⟩ := Cs.join (ρ := ρ) (σ := σ) (i := i) (A := A) (v := v) (F1 := F1) (F2 := F4) c (by simpa using l) a
    subst e1 e2
    refine ⟨F3 ++ F, ?_, u, F3, F, rfl, rfl, b, q⟩
    refine (List.Perm.append_left F3 p).trans ?_
    rw [← List.append_assoc, ← List.append_assoc]
    exact List.Perm.append_right F4 List.perm_append_comm
theorem Cs.forget {G H : Hp} : ∀ {ρ : List (Option OA)} {σ : List (Option V)} {F : List Addr} {i : Nat} {x : Option V}, Cs G H ρ σ F → ∃ F', F'.Sublist F ∧ Cs G H (ρ.set i none) (σ.set i x) F'
  | [], [], F, _, _, h => ⟨F, .refl _, h⟩
  | [], _ :: _, _, _, _, h => h.elim
  | none :: _, [], _, _, _, h => h.elim
  | some _ :: _, [], _, _, _, h => h.elim
  | none :: ρ, y :: σ, F, 0, x, h => ⟨F, .refl _, h⟩
  | some A :: ρ, y :: σ, F, 0, x, h => by
    obtain ⟨v, F1, F2, e1, e2, a, c⟩ := h
    subst e2
    exact ⟨F2, List.sublist_append_right _ _, c⟩
  | none :: ρ, y :: σ, F, i + 1, x, h => by
    obtain ⟨F', s, c⟩ := Cs.forget (ρ := ρ) (σ := σ) (i := i) (x := x) h
    exact ⟨F', s, c⟩
  | some A :: ρ, y :: σ, F, i + 1, x, h => by
    obtain ⟨v, F1, F2, e1, e2, a, c⟩ := h
    obtain ⟨F', s, q⟩ := Cs.forget (i := i) (x := x) c
    subst e1 e2
    exact ⟨F1 ++ F', List.Sublist.append_left s F1, v, F1, F', rfl, rfl, a, q⟩
theorem Cs.append {G H : Hp} : ∀ {ρ1 ρ2 : List (Option OA)} {σ1 σ2 : List (Option V)} {F1 F2 : List Addr}, Cs G H ρ1 σ1 F1 → Cs G H ρ2 σ2 F2 → Cs G H (ρ1 ++ ρ2) (σ1 ++ σ2) (F1 ++ F2)
  | [], _, [], _, _, _, h, q => by
    have e : _ = [] := h
    subst e
    exact q
  | [], _, _ :: _, _, _, _, h, _ => h.elim
  | none :: _, _, [], _, _, _, h, _ => h.elim
  | some _ :: _, _, [], _, _, _, h, _ => h.elim
  | none :: ρ, _, y :: σ, _, _, _, h, q => Cs.append (ρ1 := ρ) (σ1 := σ) h q
  | some A :: ρ, _, y :: σ, _, _, _, h, q => by
    obtain ⟨v, F1, F2, e1, e2, a, c⟩ := h
    subst e2
    exact ⟨v, F1, _, e1, List.append_assoc _ _ _, a, c.append q⟩
theorem Cs.unappend {G H : Hp} : ∀ {ρ1 ρ2 : List (Option OA)} {σ1 σ2 : List (Option V)} {F : List Addr}, ρ1.length = σ1.length → Cs G H (ρ1 ++ ρ2) (σ1 ++ σ2) F → ∃ F1 F2, F = F1 ++ F2 ∧ Cs G H ρ1 σ1 F1 ∧ Cs G H ρ2 σ2 F2
  | [], _, [], _, F, _, h => ⟨[], F, rfl, rfl, h⟩
  | [], _, _ :: _, _, _, l, _ => by simp at l
  | _ :: _, _, [], _, _, l, _ => by simp at l
  | none :: ρ, ρ2, y :: σ, σ2, F, l, h => by
    obtain ⟨F1, F2, a, b, c⟩ := Cs.unappend (ρ1 := ρ) (ρ2 := ρ2) (σ1 := σ) (σ2 := σ2) (F := F) (by simpa using l) h
    exact ⟨F1, F2, a, b, c⟩
  | some A :: ρ, ρ2, y :: σ, σ2, F, l, h => by
    obtain ⟨v, F1, F2, e1, e2, a, c⟩ := h
    obtain ⟨F3, F4, q1, q2, q3⟩ := Cs.unappend (by simpa using l) c
    subst e2 q1
    exact ⟨F1 ++ F3, F4, (List.append_assoc _ _ _).symm, ⟨v, F1, F3, e1, rfl, a, q2⟩, q3⟩
structure Ent where
  G : Hp
  H : Hp
  F : List Addr
structure Frm (E : Ent) (G H : Hp) (F : List Addr) : Prop where
  gg : Ex E.G G
  gh : Ex G H
  nd : F.Nodup
  dis : ∀ b ∈ F, G b = none
  live : ∀ b ∈ F, H b ≠ none
  keep : ∀ b o, E.H b = some o → b ∉ E.F → H b = some o
  fp : ∀ b ∈ F, b ∈ E.F ∨ E.H b = none
  gn : ∀ b o, G b = some o → E.G b = none → b ∈ E.F ∨ E.H b = none
theorem Frm.perm {E : Ent} {G H : Hp} {F F' : List Addr} (h : Frm E G H F) (p : F.Perm F') : Frm E G H F' :=
  ⟨h.gg, h.gh, (p.nodup_iff).mp h.nd, fun b hb => h.dis b (p.mem_iff.mpr hb), fun b hb => h.live b (p.mem_iff.mpr hb), h.keep, fun b hb => h.fp b (p.mem_iff.mpr hb), h.gn⟩
theorem Frm.less {E : Ent} {G H : Hp} {F F' : List Addr} (h : Frm E G H F) (p : F'.Sublist F) : Frm E G H F' :=
  ⟨h.gg, h.gh, h.nd.sublist p, fun b hb => h.dis b (p.subset hb), fun b hb => h.live b (p.subset hb), h.keep, fun b hb => h.fp b (p.subset hb), h.gn⟩
theorem Frm.start {E : Ent} {G H : Hp} {F : List Addr} (h : Frm E G H F) : Frm ⟨G, H, F⟩ G H F :=
  ⟨.refl _, h.gh, h.nd, h.dis, h.live, fun _ _ q _ => q, fun _ hb => .inl hb, fun b o q n => by rw [show G b = none from n] at q; cases q⟩
theorem Frm.old {E : Ent} {G H : Hp} {F : List Addr} (h : Frm E G H F) {b : Addr} (n : H b = none) : b ∈ E.F ∨ E.H b = none := by
  cases q : E.H b with
  | none => exact .inr rfl
  | some o =>
    by_cases hb : b ∈ E.F
    · exact .inl hb
    · rw [h.keep b o q hb] at n; cases n
theorem Frm.step {E : Ent} {G H G' H' : Hp} {F Fa Fr Fb : List Addr} (h : Frm E G H F) (p : F.Perm (Fa ++ Fr)) (s : Frm ⟨G, H, Fa⟩ G' H' Fb) : Frm E G' H' (Fb ++ Fr) ∧ ∀ b ∈ Fr, ∀ o, H b = some o → H' b = some o := by
  have h' := h.perm p
  have apart : ∀ b ∈ Fr, b ∉ Fa := fun b hb ha => (List.nodup_append.mp h'.nd).2.2 b ha b hb rfl
  have stay : ∀ b ∈ Fr, ∀ o, H b = some o → H' b = some o := fun b hb o q => s.keep b o q (apart b hb)
  have lv : ∀ b ∈ Fr, H b ≠ none := fun b hb => h'.live b (List.mem_append_right _ hb)
  have apart' : ∀ b ∈ Fr, b ∉ Fb := fun b hb ha => by
    rcases s.fp b ha with q | q
    · exact apart b hb q
    · exact lv b hb q
  refine ⟨⟨h.gg.trans s.gg, s.gh, ?_, fun b hb => ?_, fun b hb => ?_, fun b o q n => ?_, fun b hb => ?_, fun b o q n => ?_⟩, stay⟩
  · refine List.nodup_append.mpr ⟨s.nd, (List.nodup_append.mp h'.nd).2.1, fun a ha b hb e => ?_⟩
    subst e
    exact apart' a hb ha
  · rcases List.mem_append.mp hb with hb | hb
    · exact s.dis b hb
    · cases q : G' b with
      | none => rfl
      | some o =>
        rcases s.gn b o q (h'.dis b (List.mem_append_right _ hb)) with z | z
        · exact absurd z (apart b hb)
        · exact absurd z (lv b hb)
  · rcases List.mem_append.mp hb with hb | hb
    · exact s.live b hb
    · cases q : H b with
      | none => exact absurd q (lv b hb)
      | some o => rw [stay b hb o q]; simp
  · have q1 := h.keep b o q n
    refine s.keep b o q1 fun ha => ?_
    rcases h'.fp b (List.mem_append_left _ ha) with z | z
    · exact n z
    · rw [q] at z; cases z
  · rcases List.mem_append.mp hb with hb | hb
    · rcases s.fp b hb with z | z
      · exact h'.fp b (List.mem_append_left _ z)
      · exact h.old z
    · exact h'.fp b (List.mem_append_right _ hb)
  · cases q1 : G b with
    | some u => exact h.gn b u q1 n
    | none =>
      rcases s.gn b o q q1 with z | z
      · exact h'.fp b (List.mem_append_left _ z)
      · exact h.old z
theorem Frm.alloc {G H : Hp} {p : Addr} {o : HO} (e : Ex G H) (n : H p = none) : Frm ⟨G, H, []⟩ G (upd H p o) [p] where
  gg := .refl _
  gh := e.trans (.new n)
  nd := by simp
  dis := fun b hb => by
    have e1 : b = p := by simpa using hb
    subst e1
    cases q : G b with
    | none => rfl
    | some u => rw [e b u q] at n; cases n
  live := fun b hb => by
    have e1 : b = p := by simpa using hb
    subst e1
    rw [upd_same]; simp
  keep := fun b u q _ => Ex.new n b u q
  fp := fun b hb => by
    have e1 : b = p := by simpa using hb
    subst e1
    exact .inr n
  gn := fun b u q n' => by rw [show G b = none from n'] at q; cases q
theorem Frm.allocG {G H : Hp} {p : Addr} {o : HO} (e : Ex G H) (n : H p = none) : Frm ⟨G, H, []⟩ (upd G p o) (upd H p o) [] := by
  have gn : G p = none := by
    cases q : G p with
    | none => rfl
    | some u => rw [e p u q] at n; cases n
  refine ⟨.new gn, fun b u q => ?_, by simp, fun b hb => by simp at hb, fun b hb => by simp at hb, fun b u q _ => Ex.new n b u q, fun b hb => by simp at hb, fun b u q n' => ?_⟩
  · by_cases hb : b = p
    · subst hb; rw [upd_same] at q ⊢; exact q
    · rw [upd_ne hb] at q ⊢; exact e b u q
  · by_cases hb : b = p
    · subst hb; exact .inr n
    · rw [upd_ne hb, show G b = none from n'] at q; cases q
theorem Frm.freeze {G H : Hp} {p : Addr} {o : HO} (e : Ex G H) (g : G p = none) (h : H p = some o) : Frm ⟨G, H, [p]⟩ (upd G p o) H [] := by
  refine ⟨.new g, fun b u q => ?_, by simp, fun b hb => by simp at hb, fun b hb => by simp at hb, fun b u q _ => q, fun b hb => by simp at hb, fun b u q n' => ?_⟩
  · by_cases hb : b = p
    · subst hb; rw [upd_same] at q; cases q; exact h
    · rw [upd_ne hb] at q; exact e b u q
  · by_cases hb : b = p
    · exact .inl (by simp [hb])
    · rw [upd_ne hb, show G b = none from n'] at q; cases q
theorem Frm.write {G H : Hp} {p : Addr} {o : HO} {F : List Addr} (b0 : Frm ⟨G, H, p :: F⟩ G H (p :: F)) : Frm ⟨G, H, p :: F⟩ G (upd H p o) (p :: F) where
  gg := .refl _
  gh := fun b u q => by
    have n : b ≠ p := fun z => by
      subst z
      rw [b0.dis b (by simp)] at q; cases q
    rw [upd_ne n]; exact b0.gh b u q
  nd := b0.nd
  dis := b0.dis
  live := fun b hb => by
    by_cases z : b = p
    · subst z; rw [upd_same]; simp
    · rw [upd_ne z]; exact b0.live b hb
  keep := fun b u q n => by
    have z : b ≠ p := fun z => n (by simp [z])
    rw [upd_ne z]; exact q
  fp := fun b hb => .inl hb
  gn := fun b u q n => by rw [show G b = none from n] at q; cases q
def ST (E : Ent) (ρ : List (Option OA)) (σ : List (Option V)) (H : Hp) : Prop := ∃ G F, Frm E G H F ∧ Cs G H ρ σ F
end Mr

namespace Mr
open PySem PySem.Spec PyProof.Rows L2
abbrev Cl := List (Option OA)
def wE (X : Cx) (e : Expr) : TE := fun σ H Q => ∀ pins s, Inv X pins σ H s → wpAny (model X.prog X.w) X.A (eval e X.env) (EP X pins σ Q) X.xe s
def wT (X : Cx) (e : Expr) : TT := fun σ H Q => ∀ pins s, Inv X pins σ H s → wpAny (model X.prog X.w) X.A (isTrue e X.env (eval e X.env)) (TP X pins σ Q) X.xe s
def wW (X : Cx) (e : Expr) : TT := fun σ H Q => ∀ whole pins s, Inv X pins σ H s → wpAny (model X.prog X.w) X.A (isTrue e X.env whole) (TP X pins σ Q) X.xe s
def wA (X : Cx) (es : List Expr) : TA := fun σ H Q => ∀ pos pins s, Inv X pins σ H s → wpAny (model X.prog X.w) X.A (spliced (backTo pos (starEach es X.env))) (AP X pins σ Q) X.xe s
def wS (X : Cx) (sts : List Stmt) : TS := fun D σ H => ∀ pins s, Inv X pins σ H s → wpAny (model X.prog X.w) X.A (execs sts X.env) (SP X pins D) X.xe s
section
variable {X : Cx} {e : Expr} {es : List Expr} {st : Stmt} {sts : List Stmt} {σ : L2.St} {H : Hp}
theorem peS : PE X e (wE X e) := ⟨fun pins s _ _ _ I h => h pins s I⟩
theorem ptS : PT X e (wT X e) := ⟨fun pins s _ _ _ I h => h pins s I⟩
theorem pwS : PW X e (wW X e) := ⟨fun wh pins s _ _ _ I h => h wh pins s I⟩
theorem paS : PA X es (wA X es) := ⟨fun p pins s _ _ _ I h => h p pins s I⟩
theorem pssS : PSs X sts (wS X sts) := ⟨fun pins s _ _ _ I h => h pins s I⟩
theorem wE.of {t : TE} (h : PE X e t) {Q : VK} (q : t σ H Q) : wE X e σ H Q := fun pins s I => h.run pins s σ H Q I q
theorem wT.of {t : TT} (h : PT X e t) {Q : Bool → Hp → Prop} (q : t σ H Q) : wT X e σ H Q := fun pins s I => h.run pins s σ H Q I q
theorem wW.of {t : TT} (h : PW X e t) {Q : Bool → Hp → Prop} (q : t σ H Q) : wW X e σ H Q := fun wh pins s I => h.run wh pins s σ H Q I q
theorem wA.of {t : TA} (h : PA X es t) {Q : List V → Hp → Prop} (q : t σ H Q) : wA X es σ H Q := fun p pins s I => h.run p pins s σ H Q I q
theorem wS.of {t : TS} (h : PSs X sts t) {D : Ends} (q : t D σ H) : wS X sts D σ H := fun pins s I => h.run pins s σ H D I q
end
def aD (K : PySem.W.Frag) (d : PyData) : OA := ⟨fun G _ v F => Dq K G v d ∧ F = [], fun h e _ _ => ⟨Dq.mono e _ _ h.1, h.2⟩⟩
def aV (v0 : V) : OA := ⟨fun _ _ v F => v = v0 ∧ F = [], fun h _ _ _ => h⟩
def pin (v0 : V) (A : OA) : OA := ⟨fun G H v F => v = v0 ∧ A.P G H v F, fun h e e' k => ⟨h.1, A.mono h.2 e e' k⟩⟩
def aL (As : List OA) : OA := ⟨fun G H v F => ∃ p vs F', v = .ref p ∧ F = p :: F' ∧ H p = some (.lst vs) ∧ Cs G H (As.map some) (vs.map some) F', fun h e e' k => by
  obtain ⟨p, vs, F', e1, e2, h1, c⟩ := h
  subst e2
  exact ⟨p, vs, F', e1, rfl, k p (by simp) _ h1, c.mono e e' fun b hb => k b (by simp [hb])⟩⟩
abbrev aLD (K : PySem.W.Frag) (ds : List PyData) : OA := aL (ds.map (aD K))
def aR (K : PySem.W.Frag) (ds : List PyData) : OA := ⟨fun G _ v F => (∃ a xs, v = .ref a ∧ SqL K G a xs ∧ DqAll K G xs ds) ∧ F = [], fun h e _ _ => by
  obtain ⟨⟨a, xs, e1, e2, e3⟩, e4⟩ := h
  exact ⟨⟨a, xs, e1, e.sl e2, DqAll.mono e _ _ e3⟩, e4⟩⟩
theorem csD {K : PySem.W.Frag} {G H : Hp} : ∀ {ds : List PyData} {vs : List V} {F : List Addr}, Cs G H ((ds.map (aD K)).map some) (vs.map some) F → DqAll K G vs ds ∧ F = []
  | [], [], _, h => ⟨.nil, h⟩
  | [], _ :: _, _, h => h.elim
  | _ :: _, [], _, h => h.elim
  | d :: ds, x :: vs, F, h => by
    obtain ⟨v, F1, F2, e1, e2, a, c⟩ := h
    obtain ⟨q1, q2⟩ := csD (ds := ds) (vs := vs) c
    cases e1
    obtain ⟨a1, a2⟩ := a
    subst e2 a2 q2
    exact ⟨.cons a1 q1, rfl⟩
theorem csD' {K : PySem.W.Frag} {G H : Hp} : ∀ {ds : List PyData} {vs : List V}, DqAll K G vs ds → Cs G H ((ds.map (aD K)).map some) (vs.map some) []
  | [], _, h => by cases h; exact rfl
  | d :: ds, _, h => by
    cases h with
    | cons h1 h2 => exact ⟨_, [], [], rfl, rfl, ⟨h1, rfl⟩, csD' h2⟩
def XE (X : Cx) (e : Expr) (ρ ρ' : Cl) (A : OA) : Prop := ∀ (E : Ent) (T : Cl) (t σ : L2.St) (H : Hp), T.length = t.length → ST E (T ++ ρ) (t ++ σ) H →
  ∀ Q : VK, (∀ v H', ST E (some A :: (T ++ ρ')) (some v :: (t ++ σ)) H' → Q v H') → wE X e σ H Q
def XT (X : Cx) (e : Expr) (ρ ρ' : Cl) (b : Bool) : Prop := ∀ (E : Ent) (T : Cl) (t σ : L2.St) (H : Hp), T.length = t.length → ST E (T ++ ρ) (t ++ σ) H →
  ∀ Q : Bool → Hp → Prop, (∀ H', ST E (T ++ ρ') (t ++ σ) H' → Q b H') → wT X e σ H Q
def XW (X : Cx) (e : Expr) (ρ ρ' : Cl) (b : Bool) : Prop := ∀ (E : Ent) (T : Cl) (t σ : L2.St) (H : Hp), T.length = t.length → ST E (T ++ ρ) (t ++ σ) H →
  ∀ Q : Bool → Hp → Prop, (∀ H', ST E (T ++ ρ') (t ++ σ) H' → Q b H') → wW X e σ H Q
def XA (X : Cx) (es : List Expr) (ρ ρ' : Cl) (As : List OA) : Prop := ∀ (E : Ent) (T : Cl) (t σ : L2.St) (H : Hp), T.length = t.length → ST E (T ++ ρ) (t ++ σ) H →
  ∀ Q : List V → Hp → Prop, (∀ vs H', vs.length = As.length → ST E (As.map some ++ (T ++ ρ')) (vs.map some ++ (t ++ σ)) H' → Q vs H') → wA X es σ H Q
def XG (X : Cx) {ω : Type} (sts : List Stmt) (ρ : Cl) (m : Option ω) (Φ : ω → Ent → Ends → Prop) : Prop := ∀ o, m = some o → ∀ (E : Ent) (σ : L2.St) (H : Hp) (D : Ends), ST E ρ σ H → Φ o E D → wS X sts D σ H
def oR {γ : Type} (R : γ → Cl) : γ → Ent → Ends → Prop := fun r E D => ∀ v σ' H', ST E (R r) (some v :: σ') H' → D.rt v H'
def oS {β : Type} (N : β → Cl) : β → Ent → Ends → Prop := fun b E D => ∀ σ' H', ST E (N b) σ' H' → D.nx σ' H'
def oB {γ β : Type} (R : γ → Cl) (N : β → Cl) : γ ⊕ β → Ent → Ends → Prop
  | .inl r => oR R r
  | .inr b => oS N b
theorem append_set_right {α : Type} (T ρ : List α) (i : Nat) (x : α) : (T ++ ρ).set (T.length + i) x = T ++ ρ.set i x := by
  rw [List.set_append_right _ _ (Nat.le_add_right _ _), Nat.add_sub_cancel_left]
theorem append_get_right {α : Type} (T ρ : List α) (i : Nat) : (T ++ ρ)[T.length + i]? = ρ[i]? := by
  rw [List.getElem?_append_right (Nat.le_add_right _ _), Nat.add_sub_cancel_left]
theorem Cs.slot {G H : Hp} {T ρ : Cl} {t σ : L2.St} {F : List Addr} {i : Nat} {A : OA} (l : T.length = t.length) (c : Cs G H (T ++ ρ) (t ++ σ) F) (h : ρ[i]? = some (some A)) :
    ∃ v F1 F2, σ[i]? = some (some v) ∧ F.Perm (F1 ++ F2) ∧ A.P G H v F1 ∧ Cs G H (T ++ ρ.set i none) (t ++ σ) F2 := by
  obtain ⟨v, F1, F2, a, b, p, q⟩ := c.split (i := T.length + i) (by rw [append_get_right]; exact h)
  rw [l, append_get_right] at a
  rw [append_set_right] at q
  exact ⟨v, F1, F2, a, b, p, q⟩
theorem Cs.back {G H : Hp} {T ρ : Cl} {t σ : L2.St} {F2 : List Addr} {i : Nat} {A : OA} {v : V} {F1 : List Addr} (l : T.length = t.length) (c : Cs G H (T ++ ρ.set i none) (t ++ σ) F2) (hi : i < ρ.length) (hv : σ[i]? = some (some v)) (p : A.P G H v F1) :
    ∃ F, F.Perm (F1 ++ F2) ∧ Cs G H (T ++ ρ.set i (some A)) (t ++ σ) F := by
  rw [← append_set_right] at c
  obtain ⟨F, a, b⟩ := c.join (by rw [List.length_append]; omega) p
  refine ⟨F, a, ?_⟩
  rw [append_set_right, l, append_set_right] at b
  have e : σ.set i (some v) = σ := by
    refine List.ext_getElem? fun j => ?_
    by_cases z : i = j
    · subst z
      have hl : i < σ.length := by
        by_cases q : i < σ.length
        · exact q
        · rw [List.getElem?_eq_none (by omega)] at hv; cases hv
      rw [List.getElem?_set_self hl, hv]
    · rw [List.getElem?_set_ne z]
  rwa [e] at b
theorem lt_of_get {α : Type} {l : List α} {i : Nat} {x : α} (h : l[i]? = some x) : i < l.length := by
  by_cases q : i < l.length
  · exact q
  · rw [List.getElem?_eq_none (by omega)] at h; cases h
theorem set_get {α : Type} {l : List α} {i : Nat} {x : α} (h : l[i]? = some x) : l.set i x = l := by
  refine List.ext_getElem? fun j => ?_
  by_cases z : i = j
  · subst z
    rw [List.getElem?_set_self (lt_of_get h), h]
  · rw [List.getElem?_set_ne z]
theorem set_set {α : Type} (l : List α) (i : Nat) (x y : α) : (l.set i x).set i y = l.set i y := by
  refine List.ext_getElem? fun j => ?_
  by_cases z : i = j
  · subst z
    by_cases q : i < l.length
    · rw [List.getElem?_set_self (by rw [List.length_set]; exact q), List.getElem?_set_self q]
    · rw [List.getElem?_eq_none (by simp; omega), List.getElem?_eq_none (by simp; omega)]
  · rw [List.getElem?_set_ne z, List.getElem?_set_ne z, List.getElem?_set_ne z]
def Wk : Cl → Cl → Prop
  | [], [] => True
  | _ :: l, none :: l' => Wk l l'
  | a :: l, some b :: l' => a = some b ∧ Wk l l'
  | _, _ => False
theorem Cs.wk {G H : Hp} : ∀ {ρ ρ' : Cl} {σ : L2.St} {F : List Addr}, Cs G H ρ σ F → Wk ρ ρ' → ∃ F', F'.Sublist F ∧ Cs G H ρ' σ F'
  | [], [], [], F, c, _ => ⟨F, .refl _, c⟩
  | [], [], _ :: _, F, c, _ => c.elim
  | [], _ :: _, _, _, _, w => w.elim
  | _ :: _, [], _, _, _, w => w.elim
  | none :: _, _ :: _, [], _, c, _ => c.elim
  | some _ :: _, _ :: _, [], _, c, _ => c.elim
  | none :: ρ, none :: ρ', x :: σ, F, c, w => by
    obtain ⟨F', a, b⟩ := Cs.wk (ρ := ρ) (ρ' := ρ') (σ := σ) c w
    exact ⟨F', a, b⟩
  | none :: ρ, some B :: ρ', x :: σ, F, c, w => nomatch w.1
  | some A :: ρ, none :: ρ', x :: σ, F, c, w => by
    obtain ⟨v, F1, F2, e1, e2, a, c⟩ := c
    obtain ⟨F', p, q⟩ := Cs.wk (ρ' := ρ') c w
    subst e2
    exact ⟨F', p.trans (List.sublist_append_right _ _), q⟩
  | some A :: ρ, some B :: ρ', x :: σ, F, c, w => by
    obtain ⟨v, F1, F2, e1, e2, a, c⟩ := c
    obtain ⟨w1, w2⟩ := w
    cases w1
    obtain ⟨F', p, q⟩ := Cs.wk (ρ' := ρ') c w2
    subst e2
    exact ⟨F1 ++ F', List.Sublist.append_left p F1, v, F1, F', e1, rfl, a, q⟩
theorem ST.wk {E : Ent} {ρ ρ' : Cl} {σ : L2.St} {H : Hp} (h : ST E ρ σ H) (w : Wk ρ ρ') : ST E ρ' σ H := by
  obtain ⟨G, F, f, c⟩ := h
  obtain ⟨F', s, c'⟩ := c.wk w
  exact ⟨G, F', f.less s, c'⟩
theorem ST.pop {E : Ent} {ρ : Cl} {σ : L2.St} {H : Hp} {A : OA} {x : Option V} (h : ST E (some A :: ρ) (x :: σ) H) : ST E ρ σ H := by
  obtain ⟨G, F, f, v, F1, F2, e1, e2, a, c⟩ := h
  subst e2
  exact ⟨G, F2, f.less (List.sublist_append_right _ _), c⟩
theorem ST.assign {E : Ent} {ρ : Cl} {σ : L2.St} {H : Hp} {A : OA} {v : V} {i : Nat} (h : ST E (some A :: ρ) (some v :: σ) H) (hi : i < ρ.length) : ST E (ρ.set i (some A)) (σ.set i (some v)) H := by
  obtain ⟨G, F, f, v', F1, F2, e1, e2, a, c⟩ := h
  cases e1
  subst e2
  obtain ⟨F3, s, c1⟩ := c.forget (i := i) (x := none)
  have f1 : Frm E G H (F1 ++ F3) := f.less (List.Sublist.append_left s F1)
  obtain ⟨F4, p, c2⟩ := c1.join hi a
  rw [set_set] at c2
  exact ⟨G, F4, f1.perm p.symm, c2⟩
theorem ST.top {E : Ent} {K : PySem.W.Frag} {ρ : Cl} {σ : L2.St} {H : Hp} {d : PyData} {v : V} (h : ST E (some (aD K d) :: ρ) (some v :: σ) H) : ∃ G F, Frm E G H F ∧ Cs G H ρ σ F ∧ Dq K G v d := by
  obtain ⟨G, F, f, v', F1, F2, e1, e2, a, c⟩ := h
  cases e1
  obtain ⟨a1, a2⟩ := a
  subst e2 a2
  exact ⟨G, F2, f, c, a1⟩
theorem ST.top2 {E : Ent} {K : PySem.W.Frag} {ρ : Cl} {σ : L2.St} {H : Hp} {d e : PyData} {v w : V} (h : ST E (some (aD K e) :: some (aD K d) :: ρ) (some w :: some v :: σ) H) : ∃ G F, Frm E G H F ∧ Cs G H ρ σ F ∧ Dq K G v d ∧ Dq K G w e := by
  obtain ⟨G, F, f, c, q⟩ := h.top
  obtain ⟨v', F1, F2, e1, e2, a, c⟩ := c
  cases e1
  obtain ⟨a1, a2⟩ := a
  subst e2 a2
  exact ⟨G, F2, f, c, a1, q⟩
theorem ST.put {E : Ent} {K : PySem.W.Frag} {ρ : Cl} {σ : L2.St} {G H : Hp} {F : List Addr} {d : PyData} {v : V} (f : Frm E G H F) (c : Cs G H ρ σ F) (q : Dq K G v d) : ST E (some (aD K d) :: ρ) (some v :: σ) H := ⟨G, F, f, v, [], F, rfl, rfl, ⟨q, rfl⟩, c⟩
section
variable {X : Cx} {ρ ρ1 ρ2 ρ3 : Cl} {a b c : Expr} {pos : Pos}
theorem xe_c {v : V} {d : PyData} (h : PE X a (tC v)) (q : ∀ G, Dq X.K G v d) : XE X a ρ ρ (aD X.K d) := fun E T t σ H l st Q k => by
  obtain ⟨G, F, f, cs⟩ := st
  exact wE.of h (k v H (ST.put f cs (q G)))
theorem xe_int {i : Int} {j : Nat} : XE X (.Constant (.int i) j pos) ρ ρ (aD X.K (.int i)) := xe_c pe_int fun _ => .int _
theorem xe_bl {i : Bool} {j : Nat} : XE X (.Constant (.bool i) j pos) ρ ρ (aD X.K (.bool i)) := xe_c pe_bl fun _ => .bl _
theorem xe_non {j : Nat} : XE X (.Constant .none j pos) ρ ρ (aD X.K .none) := xe_c pe_non fun _ => .non
theorem xe_nm (i : Nat) {x : Str} {d : PyData} (h : ρ[i]? = some (some (aD X.K d))) (hN : X.N[i]? = some x := by rfl) (hv : Vis X.env.scope x := by first | exact Or.inl rfl | exact Or.inr (Or.inl rfl) | exact Or.inr (Or.inr rfl)) (hd : (x == ("__debug__" : Str)) = false := by decide)
    (hcd : (x == ("__classdict__" : Str)) = false := by decide) : XE X (.Name x pos) ρ ρ (aD X.K d) := fun E T t σ H l st Q k => by
  obtain ⟨G, F, f, cs⟩ := st
  obtain ⟨v, F1, F2, e1, e2, ⟨q, e3⟩, c2⟩ := cs.slot l h
  exact wE.of (pe_var hN hv hd hcd) ⟨v, e1, k v H (ST.put f cs q)⟩
theorem xe_nmA (i : Nat) {x : Str} {A : OA} (h : ρ[i]? = some (some A)) (hA : ∀ G H v F, A.P G H v F → F = []) (hN : X.N[i]? = some x := by rfl) (hv : Vis X.env.scope x := by first | exact Or.inl rfl | exact Or.inr (Or.inl rfl) | exact Or.inr (Or.inr rfl)) (hd : (x == ("__debug__" : Str)) = false := by decide)
    (hcd : (x == ("__classdict__" : Str)) = false := by decide) : XE X (.Name x pos) ρ ρ A := fun E T t σ H l st Q k => by
  obtain ⟨G, F, f, cs⟩ := st
  obtain ⟨v, F1, F2, e1, e2, q, c2⟩ := cs.slot l h
  have e3 := hA _ _ _ _ q
  subst e3
  exact wE.of (pe_var hN hv hd hcd) ⟨v, e1, k v H ⟨G, F, f, v, [], F, rfl, rfl, q, cs⟩⟩
theorem xe_nmR (i : Nat) {x : Str} {ds : List PyData} (h : ρ[i]? = some (some (aR X.K ds))) (hN : X.N[i]? = some x := by rfl) (hv : Vis X.env.scope x := by first | exact Or.inl rfl | exact Or.inr (Or.inl rfl) | exact Or.inr (Or.inr rfl)) (hd : (x == ("__debug__" : Str)) = false := by decide)
    (hcd : (x == ("__classdict__" : Str)) = false := by decide) : XE X (.Name x pos) ρ ρ (aR X.K ds) := xe_nmA i h (fun _ _ _ _ q => q.2) hN hv hd hcd
theorem xe_nmV (i : Nat) {x : Str} {v0 : V} {A : OA} (h : ρ[i]? = some (some (pin v0 A))) (hN : X.N[i]? = some x := by rfl) (hv : Vis X.env.scope x := by first | exact Or.inl rfl | exact Or.inr (Or.inl rfl) | exact Or.inr (Or.inr rfl)) (hd : (x == ("__debug__" : Str)) = false := by decide)
    (hcd : (x == ("__classdict__" : Str)) = false := by decide) : XE X (.Name x pos) ρ ρ (aV v0) := fun E T t σ H l st Q k => by
  obtain ⟨G, F, f, cs⟩ := st
  obtain ⟨v, F1, F2, e1, e2, ⟨e0, q⟩, c2⟩ := cs.slot l h
  subst e0
  exact wE.of (pe_var hN hv hd hcd) ⟨v, e1, k v H ⟨G, F, f, v, [], F, rfl, rfl, ⟨rfl, rfl⟩, cs⟩⟩
theorem xe_op {op : Operator} {r : R2} {d1 d2 d : PyData} (ho : OpR X (binaryOp op) r) (ha : XE X a ρ ρ1 (aD X.K d1)) (hb : XE X b ρ1 ρ2 (aD X.K d2))
    (hr : ∀ G H x y Q, Ex G H → Dq X.K G x d1 → Dq X.K G y d2 → (∀ z, Dq X.K G z d → Q z H) → r x y H Q) : XE X (.BinOp a op b pos) ρ ρ2 (aD X.K d) := fun E T t σ H l st Q k =>
  wE.of (pe_op ho peS peS) (ha E T t σ H l st _ fun x H1 st1 => hb E (_ :: T) (_ :: t) σ H1 (by simp [l]) st1 _ fun y H2 st2 => by
    obtain ⟨G, F, f, cs, q1, q2⟩ := ST.top2 st2
    exact hr G H2 x y Q f.gh q1 q2 fun z q => k z H2 (ST.put f cs q))
theorem xe_opI {op : Operator} {C : Int → Int → Prop} {g : Int → Int → Int} {i j : Int} (ho : OpR X (binaryOp op) (rI C fun i j => .int (g i j))) (ha : XE X a ρ ρ1 (aD X.K (.int i))) (hb : XE X b ρ1 ρ2 (aD X.K (.int j))) (hc : C i j) : XE X (.BinOp a op b pos) ρ ρ2 (aD X.K (.int (g i j))) :=
  xe_op ho ha hb fun G H x y Q _ q1 q2 k => by
    cases q1
    cases q2
    exact ⟨i, j, rfl, rfl, hc, k _ (.int _)⟩
theorem xe_opI0 {op : Operator} {g : Int → Int → Int} {i j : Int} (ho : OpR X (binaryOp op) (rI0 fun i j => .int (g i j))) (ha : XE X a ρ ρ1 (aD X.K (.int i))) (hb : XE X b ρ1 ρ2 (aD X.K (.int j))) : XE X (.BinOp a op b pos) ρ ρ2 (aD X.K (.int (g i j))) :=
  xe_op ho ha hb fun G H x y Q _ q1 q2 k => by
    cases q1
    cases q2
    exact ⟨i, j, rfl, rfl, k _ (.int _)⟩
variable {i j : Int}
theorem xe_add (ha : XE X a ρ ρ1 (aD X.K (.int i))) (hb : XE X b ρ1 ρ2 (aD X.K (.int j))) : XE X (.BinOp a .Add b pos) ρ ρ2 (aD X.K (.int (i + j))) := xe_opI0 op_add ha hb
theorem xe_sub (ha : XE X a ρ ρ1 (aD X.K (.int i))) (hb : XE X b ρ1 ρ2 (aD X.K (.int j))) : XE X (.BinOp a .Sub b pos) ρ ρ2 (aD X.K (.int (i - j))) := xe_opI0 op_sub ha hb
def MulOk (i j : Int) : Prop := (-(2 ^ 64) < i ∧ i < 2 ^ 64) ∨ (-(2 ^ 64) < j ∧ j < 2 ^ 64)
instance (i j : Int) : Decidable (MulOk i j) := by unfold MulOk; exact inferInstance
theorem mulR (j : Int) (h : -(2 ^ 64) < j ∧ j < 2 ^ 64 := by decide) {i : Int} : MulOk i j := .inr h
theorem xe_mul (hc : MulOk i j) (ha : XE X a ρ ρ1 (aD X.K (.int i))) (hb : XE X b ρ1 ρ2 (aD X.K (.int j))) : XE X (.BinOp a .Mult b pos) ρ ρ2 (aD X.K (.int (i * j))) := xe_opI op_mul ha hb hc
def DivOk (j : Int) : Prop := 0 < j ∧ j < 2 ^ 64
instance (j : Int) : Decidable (DivOk j) := by unfold DivOk; exact inferInstance
theorem DivOk.w {i j : Int} (h : DivOk j) : CDivW i j := wide_div (b := 64) h.1 (by have := h.2; have := h.1; omega) (by decide) (by decide)
theorem xe_div (hc : DivOk j) (ha : XE X a ρ ρ1 (aD X.K (.int i))) (hb : XE X b ρ1 ρ2 (aD X.K (.int j))) : XE X (.BinOp a .FloorDiv b pos) ρ ρ2 (aD X.K (.int (i / j))) := xe_opI op_fdivW ha hb hc.w
theorem xe_mod (hc : 0 < j) (ha : XE X a ρ ρ1 (aD X.K (.int i))) (hb : XE X b ρ1 ρ2 (aD X.K (.int j))) : XE X (.BinOp a .Mod b pos) ρ ρ2 (aD X.K (.int (i % j))) := xe_opI op_mod ha hb hc
def PowOk (i j : Int) : Prop := 0 ≤ j ∧ j ≤ 1000000 ∧ i.natAbs < 2 ^ 64
instance (i j : Int) : Decidable (PowOk i j) := by unfold PowOk; exact inferInstance
theorem xe_pow (hc : PowOk i j) (ha : XE X a ρ ρ1 (aD X.K (.int i))) (hb : XE X b ρ1 ρ2 (aD X.K (.int j))) : XE X (.BinOp a .Pow b pos) ρ ρ2 (aD X.K (.int (i ^ j.toNat))) := xe_opI op_pow ha hb hc
theorem xe_neg (ha : XE X a ρ ρ1 (aD X.K (.int i))) : XE X (.UnaryOp .USub a pos) ρ ρ1 (aD X.K (.int (-i))) := fun E T t σ H l st Q k =>
  wE.of (pe_un un_neg peS) (ha E T t σ H l st _ fun x H1 st1 => by
    obtain ⟨G, F, f, cs, q⟩ := ST.top st1
    cases q
    exact ⟨i, rfl, k _ H1 (ST.put f cs (.int _))⟩)
def XKm (X : Cx) (e : Expr) (ρ ρ' : Cl) (k : Bool) : Prop := ∃ t : TE, PE X e t ∧ PT X e (tTest t) ∧ ∀ (E : Ent) (T : Cl) (t' σ : L2.St) (H : Hp), T.length = t'.length → ST E (T ++ ρ) (t' ++ σ) H →
  ∀ Q : VK, (∀ v H', ST E (some (aD X.K (.bool k)) :: (T ++ ρ')) (some v :: (t' ++ σ)) H' → Q v H') → t σ H Q
theorem xe_k {k : Bool} (h : XKm X a ρ ρ1 k) : XE X a ρ ρ1 (aD X.K (.bool k)) := fun E T t σ H l st Q kk => by
  obtain ⟨t0, h1, h2, h3⟩ := h
  exact wE.of h1 (h3 E T t σ H l st Q kk)
theorem xt_k {k : Bool} (h : XKm X a ρ ρ1 k) : XT X a ρ ρ1 k := fun E T t σ H l st Q kk => by
  obtain ⟨t0, h1, h2, h3⟩ := h
  exact wT.of h2 (h3 E T t σ H l st _ fun v H1 st1 => by
    obtain ⟨G, F, f, cs, q⟩ := ST.top st1
    cases q
    exact ⟨k, rfl, kk H1 ⟨G, F, f, cs⟩⟩)
theorem xk_cmp {op : CmpOp} {r : R2} {d1 d2 : PyData} {k : Bool} (ho : OpR X (compareOp op) r) (hm : behindInMarks op b = false) (ha : XE X a ρ ρ1 (aD X.K d1)) (hb : XE X b ρ1 ρ2 (aD X.K d2))
    (hr : ∀ G H x y Q, Ex G H → Dq X.K G x d1 → Dq X.K G y d2 → (∀ z, Dq X.K G z (.bool k) → Q z H) → r x y H Q) : XKm X (.Compare a [op] [b] pos) ρ ρ2 k :=
  ⟨_, pe_cmpR ho peS peS hm, pt_cmpR ho peS peS hm, fun E T t σ H l st Q kk => ha E T t σ H l st _ fun x H1 st1 => hb E (_ :: T) (_ :: t) σ H1 (by simp [l]) st1 _ fun y H2 st2 => by
    obtain ⟨G, F, f, cs, q1, q2⟩ := ST.top2 st2
    exact hr G H2 x y Q f.gh q1 q2 fun z q => kk z H2 (ST.put f cs q)⟩
theorem xk_cmpI {op : CmpOp} {g : Int → Int → Bool} {i j : Int} (ho : OpR X (compareOp op) (rI0 fun i j => .bl (g i j))) (ha : XE X a ρ ρ1 (aD X.K (.int i))) (hb : XE X b ρ1 ρ2 (aD X.K (.int j))) (hm : behindInMarks op b = false) : XKm X (.Compare a [op] [b] pos) ρ ρ2 (g i j) :=
  xk_cmp ho hm ha hb fun G H x y Q _ q1 q2 k => by
    cases q1
    cases q2
    exact ⟨i, j, rfl, rfl, k _ (.bl _)⟩
theorem xk_lt (ha : XE X a ρ ρ1 (aD X.K (.int i))) (hb : XE X b ρ1 ρ2 (aD X.K (.int j))) : XKm X (.Compare a [.Lt] [b] pos) ρ ρ2 (decide (i < j)) := xk_cmpI (g := fun i j => decide (i < j)) op_lt ha hb (nomark _)
theorem xk_gt (ha : XE X a ρ ρ1 (aD X.K (.int i))) (hb : XE X b ρ1 ρ2 (aD X.K (.int j))) : XKm X (.Compare a [.Gt] [b] pos) ρ ρ2 (decide (j < i)) := xk_cmpI (g := fun i j => decide (j < i)) op_gt ha hb (nomark _)
theorem xk_ge (ha : XE X a ρ ρ1 (aD X.K (.int i))) (hb : XE X b ρ1 ρ2 (aD X.K (.int j))) : XKm X (.Compare a [.GtE] [b] pos) ρ ρ2 (decide (j ≤ i)) := xk_cmpI (g := fun i j => decide (j ≤ i)) op_ge ha hb (nomark _)
end
end Mr

namespace Mr
open PySem PySem.Spec PyProof.Rows L2
def Rda (K : PySem.W.Frag) (ρ : Cl) (A : OA) (d : PyData) : Prop := ∀ {G H : Hp} {T : Cl} {t σ : L2.St} {F Fv : List Addr} {v : V}, T.length = t.length → Cs G H (T ++ ρ) (t ++ σ) F → Ex G H → A.P G H v Fv → Dp K H v d
def Rls (K : PySem.W.Frag) (ρ : Cl) (A : OA) (ds : List PyData) : Prop := ∀ {G H : Hp} {T : Cl} {t σ : L2.St} {F Fv : List Addr} {v : V}, T.length = t.length → Cs G H (T ++ ρ) (t ++ σ) F → Ex G H → A.P G H v Fv → ∃ a xs, v = .ref a ∧ SqL K H a xs ∧ DqAll K G xs ds
def Rlm (K : PySem.W.Frag) (ρ : Cl) (A : OA) (ds : List PyData) : Prop := ∀ {G H : Hp} {T : Cl} {t σ : L2.St} {F Fv : List Addr} {v : V}, T.length = t.length → Cs G H (T ++ ρ) (t ++ σ) F → Ex G H → A.P G H v Fv → ∃ a xs, v = .ref a ∧ H a = some (.lst xs) ∧ DqAll K G xs ds
def Rtu (K : PySem.W.Frag) (ρ : Cl) (A : OA) (ds : List PyData) : Prop := ∀ {G H : Hp} {T : Cl} {t σ : L2.St} {F Fv : List Addr} {v : V}, T.length = t.length → Cs G H (T ++ ρ) (t ++ σ) F → Ex G H → A.P G H v Fv → ∃ a xs, v = .ref a ∧ SqT K H a xs ∧ DqAll K G xs ds
def Rsq (K : PySem.W.Frag) (ρ : Cl) (A : OA) (n : Nat) : Prop := ∀ {G H : Hp} {T : Cl} {t σ : L2.St} {F Fv : List Addr} {v : V}, T.length = t.length → Cs G H (T ++ ρ) (t ++ σ) F → Ex G H → A.P G H v Fv → ∃ a xs, v = .ref a ∧ (SqL K H a xs ∨ SqT K H a xs) ∧ xs.length = n
section
variable {K : PySem.W.Frag} {ρ : Cl} {A : OA} {ds : List PyData} {d : PyData}
theorem Rlm.ls (h : Rlm K ρ A ds) : Rls K ρ A ds := fun l c e p => by
  obtain ⟨a, xs, e1, e2, e3⟩ := h l c e p
  exact ⟨a, xs, e1, .inl (.inl e2), e3⟩
theorem Rls.da (h : Rls K ρ A ds) : Rda K ρ A (.list ds) := fun l c e p => by
  obtain ⟨a, xs, e1, e2, e3⟩ := h l c e p
  subst e1
  exact .lst e2 (DqAll.dp _ _ (DqAll.mono e _ _ e3))
theorem Rls.sq (h : Rls K ρ A ds) : Rsq K ρ A ds.length := fun l c e p => by
  obtain ⟨a, xs, e1, e2, e3⟩ := h l c e p
  exact ⟨a, xs, e1, .inl e2, e3.len⟩
theorem Rtu.da (h : Rtu K ρ A ds) : Rda K ρ A (.tuple ds) := fun l c e p => by
  obtain ⟨a, xs, e1, e2, e3⟩ := h l c e p
  subst e1
  exact .tup e2 (DqAll.dp _ _ (DqAll.mono e _ _ e3))
theorem Rtu.sq (h : Rtu K ρ A ds) : Rsq K ρ A ds.length := fun l c e p => by
  obtain ⟨a, xs, e1, e2, e3⟩ := h l c e p
  exact ⟨a, xs, e1, .inr e2, e3.len⟩
theorem Rlm.da (h : Rlm K ρ A ds) : Rda K ρ A (.list ds) := Rls.da (Rlm.ls h)
theorem Rlm.sq (h : Rlm K ρ A ds) : Rsq K ρ A ds.length := Rls.sq (Rlm.ls h)
theorem rdD : Rda K ρ (aD K d) d := fun l c e p => Dq.dp _ _ (Dq.mono e _ _ p.1)
theorem rmD : Rlm K ρ (aD K (.list ds)) ds := fun l c e p => by
  obtain ⟨q, _⟩ := p
  cases q with
  | lst h1 h2 => exact ⟨_, _, rfl, e _ _ h1, h2⟩
theorem rlD : Rls K ρ (aD K (.list ds)) ds := rmD.ls
theorem rtD : Rtu K ρ (aD K (.tuple ds)) ds := fun l c e p => by
  obtain ⟨q, _⟩ := p
  cases q with
  | tup h1 h2 => exact ⟨_, _, rfl, e.st h1, h2⟩
theorem rlR : Rls K ρ (aR K ds) ds := fun l c e p => by
  obtain ⟨⟨a, xs, e1, e2, e3⟩, _⟩ := p
  exact ⟨a, xs, e1, e.sl e2, e3⟩
theorem rmL : Rlm K ρ (aLD K ds) ds := fun l c e p => by
  obtain ⟨p, vs, F', e1, e2, h1, c1⟩ := p
  obtain ⟨q1, q2⟩ := csD c1
  exact ⟨p, vs, e1, h1, q1⟩
end
theorem ST.two {E : Ent} {A B : OA} {L : Cl} {C : L2.St} {H : Hp} {v w : V} (h : ST E (some B :: some A :: L) (some w :: some v :: C) H) : ∃ G F Fv Fw, Frm E G H F ∧ Cs G H L C F ∧ A.P G H v Fv ∧ B.P G H w Fw := by
  obtain ⟨G, F, f, w', F1, F2, e1, e2, b, v', F3, F4, e3, e4, a, c⟩ := h
  cases e1
  cases e3
  subst e2 e4
  exact ⟨G, F4, F3, F1, f.less ((List.sublist_append_right _ _).trans (List.sublist_append_right _ _)), c, a, b⟩
theorem ST.one {E : Ent} {A : OA} {L : Cl} {C : L2.St} {H : Hp} {v : V} (h : ST E (some A :: L) (some v :: C) H) : ∃ G F Fv, Frm E G H F ∧ Cs G H L C F ∧ A.P G H v Fv := by
  obtain ⟨G, F, f, w', F1, F2, e1, e2, b, c⟩ := h
  cases e1
  subst e2
  exact ⟨G, F2, F1, f.less (List.sublist_append_right _ _), c, b⟩
theorem ST.newL {E : Ent} {K : PySem.W.Frag} {L : Cl} {C : L2.St} {G H : Hp} {F : List Addr} {p : Addr} {vs : List V} {ds : List PyData} (f : Frm E G H F) (c : Cs G H L C F) (n : H p = none) (q : DqAll K G vs ds) : ST E (some (aLD K ds) :: L) (some (.ref p) :: C) (upd H p (.lst vs)) := by
  obtain ⟨f1, st⟩ := f.step (Fa := []) (Fr := F) (by simp) (Frm.alloc (o := .lst vs) f.gh n)
  have c1 : Cs G (upd H p (.lst vs)) L C F := c.mono (.refl _) f1.gh st
  exact ⟨G, _, f1, .ref p, [p], F, rfl, rfl, ⟨p, vs, [], rfl, rfl, upd_same, csD' q⟩, c1⟩
theorem ST.newT {E : Ent} {K : PySem.W.Frag} {L : Cl} {C : L2.St} {G H : Hp} {F : List Addr} {p : Addr} {vs : List V} {ds : List PyData} (f : Frm E G H F) (c : Cs G H L C F) (n : H p = none) (q : DqAll K G vs ds) : ST E (some (aD K (.tuple ds)) :: L) (some (.ref p) :: C) (upd H p (.tup vs)) := by
  obtain ⟨f1, st⟩ := f.step (Fa := []) (Fr := F) (by simp) (Frm.allocG (o := .tup vs) f.gh n)
  have c1 : Cs (upd G p (.tup vs)) (upd H p (.tup vs)) L C F := c.mono (Ex.new (by
    cases q : G p with
    | none => rfl
    | some u => rw [f.gh p u q] at n; cases n)) f1.gh st
  refine ⟨_, _, f1, .ref p, [], F, rfl, rfl, ⟨.tup (.inl (.inl upd_same)) (DqAll.mono (Ex.new ?_) _ _ q), rfl⟩, by simpa using c1⟩
  cases q : G p with
  | none => rfl
  | some u => rw [f.gh p u q] at n; cases n
section
variable {X : Cx} {ρ ρ1 ρ2 ρ3 : Cl} {a b c : Expr} {pos : Pos} {A B : OA} {d d1 d2 : PyData} {ds es : List PyData}
theorem xe_frz (h : XE X a ρ ρ1 (aLD X.K ds)) : XE X a ρ ρ1 (aD X.K (.list ds)) := fun E T t σ H l st Q k => h E T t σ H l st Q fun v H' st1 => by
  obtain ⟨G, F, f, w, F1, F2, e1, e2, ⟨p, vs, F', e3, e4, h1, c1⟩, cs⟩ := st1
  obtain ⟨q1, q2⟩ := csD c1
  cases e1
  subst e2 e3 e4 q2
  have g : G p = none := f.dis p (by simp)
  obtain ⟨f1, st⟩ := f.step (Fa := [p]) (Fr := F2) (by simp) (Frm.freeze f.gh g h1)
  exact k _ _ ⟨_, _, f1, .ref p, [], F2, rfl, rfl, ⟨.lst upd_same (DqAll.mono (.new g) _ _ q1), rfl⟩, by simpa using cs.mono (.new g) f1.gh st⟩
theorem xe_is (h : XE X a ρ ρ1 A) (e : A = B) : XE X a ρ ρ1 B := e ▸ h
theorem xk_eqD {op : CmpOp} {neg : Bool} {k : Bool} (ho : OpR X (compareOp op) (fun x y H Q => ∃ d e, Dp X.K H x d ∧ Dp X.K H y e ∧ SeqAt.shaped d = true ∧ SeqAt.shaped e = true ∧ Q (.bl (if neg then !PyData.eqv d e else PyData.eqv d e)) H)) (hm : behindInMarks op b = false)
    (ha : XE X a ρ ρ1 A) (hb : XE X b ρ1 ρ2 B) (ra : Rda X.K ρ2 A d1) (rb : Rda X.K ρ2 B d2) (s1 : SeqAt.shaped d1 = true) (s2 : SeqAt.shaped d2 = true) (he : PyData.eqv d1 d2 = k) : XKm X (.Compare a [op] [b] pos) ρ ρ2 (if neg then !k else k) :=
  ⟨_, pe_cmpR ho peS peS hm, pt_cmpR ho peS peS hm, fun E T t σ H l st Q kk => ha E T t σ H l st _ fun x H1 st1 => hb E (_ :: T) (_ :: t) σ H1 (by simp [l]) st1 _ fun y H2 st2 => by
    obtain ⟨G, F, Fv, Fw, f, cs, q1, q2⟩ := ST.two st2
    refine ⟨d1, d2, ra l cs f.gh q1, rb l cs f.gh q2, s1, s2, ?_⟩
    rw [he]
    exact kk _ H2 (ST.put f cs (.bl _))⟩
theorem xk_eq {k : Bool} (hu : X.A.units + 64 < cLine) (ha : XE X a ρ ρ1 A) (hb : XE X b ρ1 ρ2 B) (ra : Rda X.K ρ2 A d1) (rb : Rda X.K ρ2 B d2) (s1 : SeqAt.shaped d1 = true) (s2 : SeqAt.shaped d2 = true) (he : PyData.eqv d1 d2 = k) : XKm X (.Compare a [.Eq] [b] pos) ρ ρ2 k :=
  xk_eqD (neg := false) (op_eqD hu) (nomark _) ha hb ra rb s1 s2 he
theorem xk_ne {k : Bool} (hu : X.A.units + 64 < cLine) (ha : XE X a ρ ρ1 A) (hb : XE X b ρ1 ρ2 B) (ra : Rda X.K ρ2 A d1) (rb : Rda X.K ρ2 B d2) (s1 : SeqAt.shaped d1 = true) (s2 : SeqAt.shaped d2 = true) (he : PyData.eqv d1 d2 = k) : XKm X (.Compare a [.NotEq] [b] pos) ρ ρ2 (!k) :=
  xk_eqD (neg := true) (op_neD hu) (nomark _) ha hb ra rb s1 s2 he
def isN : PyData → Bool
  | .none => true
  | _ => false
theorem Dq.isN {K : PySem.W.Frag} {G : Hp} {v : V} (h : Dq K G v d) : decide (v = V.non) = Mr.isN d := by
  cases h <;> rfl
theorem xk_notNone {k : Bool} {j : Nat} {p' : Pos} (ha : XE X a ρ ρ1 (aD X.K d)) (hk : isN d = k) : XKm X (.Compare a [.IsNot] [.Constant .none j p'] pos) ρ ρ1 (!k) :=
  ⟨_, pe_cmpR op_notN peS pe_non (nomark _), pt_cmpR op_notN peS pe_non (nomark _), fun E T t σ H l st Q kk => ha E T t σ H l st _ fun x H1 st1 => by
    obtain ⟨G, F, f, cs, q⟩ := ST.top st1
    refine ⟨rfl, ?_⟩
    rw [q.isN, hk]
    exact kk _ H1 (ST.put f cs (.bl _))⟩
theorem xt_v {k : Bool} (h : XE X a ρ ρ1 (aD X.K (.bool k))) (he : ∀ whole, isTrue a X.env whole = (do let v ← whole; standAt a.pos; holding [v] (truthy v)) := by intro _; rfl) : XT X a ρ ρ1 k := fun E T t σ H l st Q kk =>
  wT.of (pt_val peS he) (h E T t σ H l st _ fun x H1 st1 => by
    obtain ⟨G, F, f, cs, q⟩ := ST.top st1
    cases q
    exact ⟨k, rfl, kk H1 ⟨G, F, f, cs⟩⟩)
theorem xt_not {k : Bool} (h : XT X a ρ ρ1 k) : XT X (.UnaryOp .Not a pos) ρ ρ1 (!k) := fun E T t σ H l st Q kk => wT.of (pt_not ptS) (h E T t σ H l st _ fun H1 st1 => kk H1 st1)
theorem xt_w {k : Bool} (h : XW X a ρ ρ1 k) : XT X a ρ ρ1 k := fun E T t σ H l st Q kk => wT.of (PW.pt pwS) (h E T t σ H l st Q kk)
theorem xw_and1 {k : Bool} (h : XT X a ρ ρ1 k) : XW X (.BoolOp .And [a] pos) ρ ρ1 k := fun E T t σ H l st Q kk => wW.of (pw_and1 ptS) (h E T t σ H l st Q kk)
theorem xw_or1 {k : Bool} (h : XT X a ρ ρ1 k) : XW X (.BoolOp .Or [a] pos) ρ ρ1 k := fun E T t σ H l st Q kk => wW.of (pw_or1 ptS) (h E T t σ H l st Q kk)
theorem xw_and {k k2 : Bool} {rest : List Expr} (h : XT X a ρ ρ k) (h2 : k = true → XW X (.BoolOp .And (b :: rest) pos) ρ ρ k2) : XW X (.BoolOp .And (a :: b :: rest) pos) ρ ρ (k && k2) := fun E T t σ H l st Q kk => wW.of (pw_and ptS pwS) (h E T t σ H l st _ fun H1 st1 => by
  cases k with
  | true => exact h2 rfl E T t σ H1 l st1 Q kk
  | false => exact kk H1 st1)
theorem xw_or {k k2 : Bool} {rest : List Expr} (h : XT X a ρ ρ k) (h2 : k = false → XW X (.BoolOp .Or (b :: rest) pos) ρ ρ k2) : XW X (.BoolOp .Or (a :: b :: rest) pos) ρ ρ (k || k2) := fun E T t σ H l st Q kk => wW.of (pw_or ptS pwS) (h E T t σ H l st _ fun H1 st1 => by
  cases k with
  | false => exact h2 rfl E T t σ H1 l st1 Q kk
  | true => exact kk H1 st1)
theorem xe_one {op : BoolOp} (h : XE X a ρ ρ1 A) : XE X (.BoolOp op [a] pos) ρ ρ1 A := fun E T t σ H l st Q kk => wE.of (pe_one peS) (h E T t σ H l st Q kk)
theorem xe_and {k k2 : Bool} {rest : List Expr} (h : XE X a ρ ρ (aD X.K (.bool k))) (h2 : k = true → XE X (.BoolOp .And (b :: rest) pos) ρ ρ (aD X.K (.bool k2))) : XE X (.BoolOp .And (a :: b :: rest) pos) ρ ρ (aD X.K (.bool (k && k2))) := fun E T t σ H l st Q kk => wE.of (pe_and peS peS) (h E T t σ H l st _ fun x H1 st1 => by
  obtain ⟨G, F, f, cs, q⟩ := ST.top st1
  cases q
  refine ⟨k, rfl, ?_⟩
  cases k with
  | true => exact h2 rfl E T t σ H1 l ⟨G, F, f, cs⟩ Q kk
  | false => exact kk _ H1 (ST.put f cs (.bl _)))
theorem atI_dq {K : PySem.W.Frag} {G : Hp} {xs : List V} {i : Int} (h : DqAll K G xs ds) (ha : atI ds i = some d) : ∃ v, atI xs i = some v ∧ Dq K G v d := by
  unfold atI at ha ⊢
  rw [h.len]
  cases hk : ixN ds.length i with
  | none => rw [hk] at ha; cases ha
  | some j =>
    rw [hk] at ha
    exact h.get ha
theorem xe_ix {i : Int} (ha : XE X a ρ ρ1 A) (hb : XE X b ρ1 ρ2 (aD X.K (.int i))) (r : Rls X.K ρ2 A ds) (h : atI ds i = some d) (hs : PlainIx b := by exact fun _ _ => rfl) : XE X (.Subscript a b pos) ρ ρ2 (aD X.K d) := fun E T t σ H l st Q k =>
  wE.of (pe_ix ix_list peS peS hs) (ha E T t σ H l st _ fun x H1 st1 => hb E (_ :: T) (_ :: t) σ H1 (by simp [l]) st1 _ fun y H2 st2 => by
    obtain ⟨G, F, Fv, Fw, f, cs, q1, q2, _⟩ := ST.two st2
    cases q2
    obtain ⟨p, xs, e1, e2, e3⟩ := r l cs f.gh q1
    obtain ⟨v, e4, e5⟩ := atI_dq e3 h
    exact ⟨p, xs, i, v, e1, rfl, e2, e4, k v H2 (ST.put f cs e5)⟩)
theorem xe_ixT {i : Int} (ha : XE X a ρ ρ1 A) (hb : XE X b ρ1 ρ2 (aD X.K (.int i))) (r : Rtu X.K ρ2 A ds) (h : atI ds i = some d) (hs : PlainIx b := by exact fun _ _ => rfl) : XE X (.Subscript a b pos) ρ ρ2 (aD X.K d) := fun E T t σ H l st Q k =>
  wE.of (pe_ix ix_tup peS peS hs) (ha E T t σ H l st _ fun x H1 st1 => hb E (_ :: T) (_ :: t) σ H1 (by simp [l]) st1 _ fun y H2 st2 => by
    obtain ⟨G, F, Fv, Fw, f, cs, q1, q2, _⟩ := ST.two st2
    cases q2
    obtain ⟨p, xs, e1, e2, e3⟩ := r l cs f.gh q1
    obtain ⟨v, e4, e5⟩ := atI_dq e3 h
    exact ⟨p, xs, i, v, e1, rfl, e2, e4, k v H2 (ST.put f cs e5)⟩)
theorem Cs.getD {K : PySem.W.Frag} {G H : Hp} : ∀ {As : List OA} {vs : List V} {F : List Addr} {j : Nat}, Cs G H (As.map some) (vs.map some) F → As[j]? = some (aD K d) → ∃ v, vs[j]? = some v ∧ Dq K G v d := fun {As vs F j} c h => by
  obtain ⟨v, F1, F2, e1, e2, ⟨q, _⟩, c2⟩ := c.split (i := j) (A := aD K d) (by rw [List.getElem?_map, h]; rfl)
  rw [List.getElem?_map] at e1
  cases hv : vs[j]? with
  | none => rw [hv] at e1; cases e1
  | some w =>
    rw [hv] at e1
    cases e1
    exact ⟨v, rfl, q⟩
end
section
variable {X : Cx} {ρ ρ1 ρ2 ρ3 : Cl} {a b c : Expr} {pos p2 : Pos} {A B : OA} {d d1 d2 : PyData} {ds es : List PyData}
theorem xa_nil : XA X [] ρ ρ [] := fun E T t σ H l st Q k => wA.of pa_nil (k [] H rfl st)
theorem xa_cons {es : List Expr} {As : List OA} (h : XE X a ρ ρ1 A) (hr : XA X es ρ1 ρ2 As) (hs : starEach (a :: es) X.env = (false, eval a X.env) :: starEach es X.env := by rfl) : XA X (a :: es) ρ ρ2 (A :: As) := fun E T t σ H l st Q k =>
  wA.of (pa_cons peS paS hs) (h E T t σ H l st _ fun x H1 st1 => hr E (_ :: T) (_ :: t) σ H1 (by simp [l]) st1 _ fun xs H2 hl st2 => by
    refine k (x :: xs) H2 (by simp [hl]) ?_
    obtain ⟨G, F, f, cs⟩ := st2
    obtain ⟨F1, F2, e1, c1, c2⟩ := cs.unappend (by simp [hl])
    obtain ⟨v, F3, F4, e2, e3, p, c3⟩ := c2
    subst e1 e3
    have perm : (F1 ++ (F3 ++ F4)).Perm (F3 ++ (F1 ++ F4)) := by
      rw [← List.append_assoc, ← List.append_assoc]
      exact List.Perm.append_right F4 List.perm_append_comm
    exact ⟨G, _, f.perm perm, v, F3, F1 ++ F4, e2, rfl, p, c1.append c3⟩)
theorem ST.args {E : Ent} {K : PySem.W.Frag} {L : Cl} {C : L2.St} {H : Hp} {vs : List V} {ds : List PyData} (hl : vs.length = ds.length) (st : ST E ((ds.map (aD K)).map some ++ L) (vs.map some ++ C) H) : ∃ G F, Frm E G H F ∧ Cs G H L C F ∧ DqAll K G vs ds := by
  obtain ⟨G, F, f, cs⟩ := st
  obtain ⟨F1, F2, e1, c1, c2⟩ := cs.unappend (by simp [hl])
  obtain ⟨q1, q2⟩ := csD c1
  subst e1 q2
  exact ⟨G, F2, by simpa using f, c2, q1⟩
theorem xe_tup {es : List Expr} {x1 : Nat} (h : XA X es ρ ρ1 (ds.map (aD X.K))) (hz : ds.length ≤ 1000) : XE X (.Tuple es x1 pos) ρ ρ1 (aD X.K (.tuple ds)) := fun E T t σ H l st Q k =>
  wE.of (pe_tup paS) (h E T t σ H l st _ fun vs H1 hl st1 => by
    have hl' : vs.length = ds.length := by simpa using hl
    obtain ⟨G, F, f, cs, q⟩ := ST.args hl' st1
    exact ⟨by rw [hl']; exact Nat.le_trans hz (by decide), fun p hp => k _ _ (ST.newT f cs hp q)⟩)
theorem xe_lst {es : List Expr} {As : List OA} (h : XA X es ρ ρ1 As) (hz : As.length ≤ 1000) : XE X (.List es pos) ρ ρ1 (aL As) := fun E T t σ H l st Q k =>
  wE.of (pe_lst paS) (h E T t σ H l st _ fun vs H1 hl st1 => by
    refine ⟨by rw [hl]; exact Nat.le_trans hz (by decide), fun p hp => k _ _ ?_⟩
    obtain ⟨G, F, f, cs⟩ := st1
    obtain ⟨F1, F2, e1, c1, c2⟩ := cs.unappend (by simp [hl])
    subst e1
    obtain ⟨f1, keep⟩ := f.step (Fa := []) (Fr := F1 ++ F2) (by simp) (Frm.alloc (o := .lst vs) f.gh hp)
    have c3 := c1.mono (.refl _) f1.gh fun b hb => keep b (List.mem_append_left _ hb)
    have c4 := c2.mono (.refl _) f1.gh fun b hb => keep b (List.mem_append_right _ hb)
    exact ⟨G, _, f1, .ref p, p :: F1, F2, rfl, by simp, ⟨p, vs, F1, rfl, rfl, upd_same, c3⟩, c4⟩)
end
end Mr

namespace Mr
open PySem PySem.Spec PyProof.Rows L2
section
variable {X : Cx} {ρ ρ1 ρ2 ρ3 : Cl} {a b c e : Expr} {pos p2 : Pos} {A B : OA} {d d1 d2 : PyData} {ds es : List PyData} {st : Stmt} {rest sts : List Stmt} {ω β γ : Type} {m : Option ω} {Φ : ω → Ent → Ends → Prop} {R : γ → Cl} {N : β → Cl}
theorem xg_bind {α : Type} {m1 : Option α} {k : α → Option ω} (h : ∀ x, m1 = some x → XG X sts ρ (k x) Φ) : XG X sts ρ (m1.bind k) Φ := fun o ho => by
  cases hm : m1 with
  | none => rw [hm] at ho; cases ho
  | some x => rw [hm] at ho; exact h x hm o ho
def lett {α β : Type} (v : α) (k : α → β) : β := k v
theorem xg_lett {α : Type} {v : α} {k : α → Option ω} (h : ∀ x, v = x → XG X sts ρ (k x) Φ) : XG X sts ρ (lett v k) Φ := h v rfl
theorem xg_pin (i : Nat) (h : ρ[i]? = some (some A)) (k : ∀ v, XG X sts (ρ.set i (some (pin v A))) m Φ) : XG X sts ρ m Φ := fun o ho E σ H D st q => by
  obtain ⟨G, F, f, c⟩ := st
  obtain ⟨v, F1, F2, e1, e2, p, c2⟩ := Cs.slot (T := []) (t := []) rfl (by simpa using c) h
  obtain ⟨F3, e3, c3⟩ := Cs.back (T := []) (t := []) (A := pin v A) rfl c2 (lt_of_get h) e1 ⟨rfl, p⟩
  exact k v o ho E σ H D ⟨G, F3, f.perm (e2.trans e3.symm), by simpa using c3⟩ q
theorem xg_nilS {b : β} (w : Wk ρ (N b)) : XG X [] ρ (some b) (oS N) := fun o ho E σ H D st q => by
  cases ho
  exact wS.of pss_nil (q σ H (st.wk w))
theorem xg_nilB {b : β} (w : Wk ρ (N b)) : XG X [] ρ (some (Sum.inr b)) (oB R N) := fun o ho E σ H D st q => by
  cases ho
  exact wS.of pss_nil (q σ H (st.wk w))
theorem xg_ret {r : γ} (h : XE X e ρ ρ1 A) (w : Wk (some A :: ρ1) (R r)) : XG X (.Return (some e) pos :: rest) ρ (some r) (oR R) := fun o ho E σ H D st q => by
  cases ho
  exact wS.of (pss_cons (ps_ret peS) pssS) (h E [] [] σ H rfl st _ fun v H' st1 => q v σ H' (ST.wk st1 w))
theorem xg_asg (i : Nat) {x : Str} {pos' : Pos} (he : XE X e ρ ρ1 A) (h : XG X rest (ρ1.set i (some A)) m Φ) (hl : i < ρ1.length := by exact Nat.le_of_ble_eq_true rfl) (hN : X.N.Nodup := by assumption) (hi : X.N[i]? = some x := by rfl) (hx : Loc X.env.scope x := by first | exact .inl rfl | exact .inr rfl)
    (hs : swapsWith e (some (.Name x pos')) pos.line X.env = pure false := by rfl) (hf : X.fn x = true ∨ X.env.scope.names.lookup x = some .local := by first | exact .inl rfl | exact .inr rfl | assumption) : XG X (.Assign [.Name x pos'] e pos :: rest) ρ m Φ := fun o ho E σ H D st q =>
  wS.of (pss_cons (ps_set hN hi hx peS hs hf) pssS) (he E [] [] σ H rfl st _ fun v H' st1 => h o ho E _ H' D (ST.assign st1 hl) q)
theorem xg_asgP (i : Nat) {x : Str} {pos' : Pos} (he : XE X e ρ ρ1 A) (h : ∀ v, XG X rest (ρ1.set i (some (pin v A))) m Φ) (hl : i < ρ1.length := by exact Nat.le_of_ble_eq_true rfl) (hN : X.N.Nodup := by assumption) (hi : X.N[i]? = some x := by rfl) (hx : Loc X.env.scope x := by first | exact .inl rfl | exact .inr rfl)
    (hs : swapsWith e (some (.Name x pos')) pos.line X.env = pure false := by rfl) (hf : X.fn x = true ∨ X.env.scope.names.lookup x = some .local := by first | exact .inl rfl | exact .inr rfl | assumption) : XG X (.Assign [.Name x pos'] e pos :: rest) ρ m Φ :=
  xg_asg i he (xg_pin i (List.getElem?_set_self hl) fun v => by rw [set_set]; exact h v) hl hN hi hx hs hf
theorem xg_expr (he : XE X e ρ ρ1 A) (h : XG X rest ρ1 m Φ) (hs : swapsWith e none pos.line X.env = pure false := by rfl) : XG X (.Expr e pos :: rest) ρ m Φ := fun o ho E σ H D st q =>
  wS.of (pss_cons (ps_expr peS hs) pssS) (he E [] [] σ H rfl st _ fun v H' st1 => h o ho E σ H' D st1.pop q)
theorem xg_if {k : Bool} {t u : List Stmt} {m1 m2 : Option β} {kk : β → Option ω} (hc : XT X c ρ ρ1 k) (h1 : k = true → XG X t ρ1 m1 (oS N)) (h2 : k = false → XG X u ρ1 m2 (oS N)) (h : ∀ s, XG X rest (N s) (kk s) Φ) : XG X (.If c t u pos :: rest) ρ ((if k = true then m1 else m2).bind kk) Φ :=
  xg_bind fun s hs o ho E σ H D st q => wS.of (pss_cons (ps_if ptS pssS pssS) pssS) (hc E [] [] σ H rfl st _ fun H1 st1 => by
    cases k with
    | true => exact h1 rfl s hs E σ H1 { D with nx := wS X rest D } st1 fun σ' H' st2 => h s o ho E σ' H' D st2 q
    | false => exact h2 rfl s hs E σ H1 { D with nx := wS X rest D } st1 fun σ' H' st2 => h s o ho E σ' H' D st2 q)
theorem xg_ifR {k : Bool} {t u : List Stmt} {m1 : Option γ} {m2 : Option γ} (hc : XT X c ρ ρ1 k) (h1 : k = true → XG X t ρ1 m1 (oR R)) (h2 : k = false → XG X rest ρ1 m2 (oR R)) : XG X (.If c t [] pos :: rest) ρ (if k = true then m1 else m2) (oR R) := fun o ho E σ H D st q =>
  wS.of (pss_cons (ps_if ptS pssS pssS) pssS) (hc E [] [] σ H rfl st _ fun H1 st1 => by
    cases k with
    | true => exact h1 rfl o ho E σ H1 { D with nx := wS X rest D } st1 q
    | false => exact wS.of pss_nil (h2 rfl o ho E σ H1 D st1 q))
theorem xg_ifRB {k : Bool} {t u : List Stmt} {m1 : Option γ} {m2 : Option (γ ⊕ β)} (hc : XT X c ρ ρ1 k) (h1 : k = true → XG X t ρ1 m1 (oR R)) (h2 : k = false → XG X rest ρ1 m2 (oB R N)) : XG X (.If c t [] pos :: rest) ρ (if k = true then m1.map Sum.inl else m2) (oB R N) := fun o ho E σ H D st q =>
  wS.of (pss_cons (ps_if ptS pssS pssS) pssS) (hc E [] [] σ H rfl st _ fun H1 st1 => by
    cases k with
    | true =>
      rw [if_pos rfl] at ho
      cases m1 with
      | none => cases ho
      | some r =>
        cases ho
        exact h1 rfl r rfl E σ H1 { D with nx := wS X rest D } st1 q
    | false => exact wS.of pss_nil (h2 rfl o ho E σ H1 D st1 q))
def thenR {ω : Type} (m : Option (γ ⊕ β)) (k : β → Option ω) (f : γ → ω) : Option ω := m.bind fun o => match o with
  | .inl r => some (f r)
  | .inr b => k b
theorem xg_ifB {k : Bool} {t u : List Stmt} {m1 m2 : Option (γ ⊕ β)} {kk : β → Option γ} (hc : XT X c ρ ρ1 k) (h1 : k = true → XG X t ρ1 m1 (oB R N)) (h2 : k = false → XG X u ρ1 m2 (oB R N)) (h : ∀ s, XG X rest (N s) (kk s) (oR R)) : XG X (.If c t u pos :: rest) ρ (thenR (if k = true then m1 else m2) kk id) (oR R) :=
  xg_bind fun s hs o ho E σ H D st q => wS.of (pss_cons (ps_if ptS pssS pssS) pssS) (hc E [] [] σ H rfl st _ fun H1 st1 => by
    have fin : ∀ {v : List Stmt} {m : Option (γ ⊕ β)}, XG X v ρ1 m (oB R N) → m = some s → wS X v { D with nx := wS X rest D } σ H1 := fun {v m} hv hm => by
      refine hv s hm E σ H1 { D with nx := wS X rest D } st1 ?_
      cases s with
      | inl r => cases ho; exact q
      | inr b => exact fun σ' H' st2 => h b o ho E σ' H' D st2 q
    cases k with
    | true => exact fin (h1 rfl) hs
    | false => exact fin (h2 rfl) hs)
theorem xg_ifBB {β' : Type} {N' : β' → Cl} {k : Bool} {t u : List Stmt} {m1 m2 : Option (γ ⊕ β)} {kk : β → Option (γ ⊕ β')} (hc : XT X c ρ ρ1 k) (h1 : k = true → XG X t ρ1 m1 (oB R N)) (h2 : k = false → XG X u ρ1 m2 (oB R N)) (h : ∀ s, XG X rest (N s) (kk s) (oB R N')) : XG X (.If c t u pos :: rest) ρ (thenR (if k = true then m1 else m2) kk Sum.inl) (oB R N') :=
  xg_bind fun s hs o ho E σ H D st q => wS.of (pss_cons (ps_if ptS pssS pssS) pssS) (hc E [] [] σ H rfl st _ fun H1 st1 => by
    have fin : ∀ {v : List Stmt} {m : Option (γ ⊕ β)}, XG X v ρ1 m (oB R N) → m = some s → wS X v { D with nx := wS X rest D } σ H1 := fun {v m} hv hm => by
      refine hv s hm E σ H1 { D with nx := wS X rest D } st1 ?_
      cases s with
      | inl r => cases ho; exact q
      | inr b => exact fun σ' H' st2 => h b o ho E σ' H' D st2 q
    cases k with
    | true => exact fin (h1 rfl) hs
    | false => exact fin (h2 rfl) hs)
end
def wG (X : Cx) (tg : Expr) : TG := fun v σ H Q => ∀ pins s u, Inv X pins σ H s → RelV v u → wpAny (model X.prog X.w) X.A (assign tg X.env u) (fun _ s' => ∃ σ' H', Inv X pins σ' H' s' ∧ Q σ' H') X.xe s
theorem pgS {X : Cx} {tg : Expr} : PG X tg (wG X tg) := ⟨fun pins s _ _ _ u _ I r h => h pins s u I r⟩
theorem wG.of {X : Cx} {tg : Expr} {g : TG} (h : PG X tg g) {v : V} {σ : L2.St} {H : Hp} {Q : L2.St → Hp → Prop} (q : g v σ H Q) : wG X tg v σ H Q := fun pins s u I r => h.run pins s σ H v u Q I r q
theorem wG.mono {X : Cx} {tg : Expr} {v : V} {σ : L2.St} {H : Hp} {P P' : L2.St → Hp → Prop} (h : wG X tg v σ H P) (k : ∀ σ' H', P σ' H' → P' σ' H') : wG X tg v σ H P' := fun pins s u I r => thn (h pins s u I r) fun _ _ ⟨σ', H', I', q⟩ => ⟨σ', H', I', k _ _ q⟩
def XP (X : Cx) (tg : Expr) (A : OA) (ρ ρ' : Cl) : Prop := ∀ (E : Ent) (T : Cl) (t σ : L2.St) (H : Hp) (v : V), T.length = t.length → ST E (some A :: (T ++ ρ)) (some v :: (t ++ σ)) H → ∀ Q : L2.St → Hp → Prop, (∀ σ' H', ST E (T ++ ρ') (t ++ σ') H' → Q σ' H') → wG X tg v σ H Q
theorem ST.assignT {E : Ent} {T ρ : Cl} {t σ : L2.St} {H : Hp} {A : OA} {v : V} {i : Nat} (l : T.length = t.length) (h : ST E (some A :: (T ++ ρ)) (some v :: (t ++ σ)) H) (hi : i < ρ.length) : ST E (T ++ ρ.set i (some A)) (t ++ σ.set i (some v)) H := by
  have q := ST.assign (i := T.length + i) h (by rw [List.length_append]; omega)
  rwa [append_set_right, l, append_set_right] at q
section
variable {X : Cx} {ρ ρ1 ρ2 ρ3 : Cl} {a b c e tg : Expr} {pos p2 : Pos} {A B : OA} {d d1 d2 : PyData} {ds es : List PyData} {st : Stmt} {rest sts body : List Stmt} {ω β γ α : Type} {m : Option ω} {Φ : ω → Ent → Ends → Prop} {R : γ → Cl} {N : β → Cl}
theorem xp_nm (i : Nat) {x : Str} (hl : i < ρ.length := by exact Nat.le_of_ble_eq_true rfl) (hN : X.N.Nodup := by assumption) (hi : X.N[i]? = some x := by rfl) (hx : Loc X.env.scope x := by first | exact .inl rfl | exact .inr rfl) (hf : X.fn x = true ∨ X.env.scope.names.lookup x = some .local := by first | exact .inl rfl | exact .inr rfl | assumption) :
    XP X (.Name x pos) A ρ (ρ.set i (some A)) := fun E T t σ H v l st Q k => wG.of (pg_name hN hi hx hf) (k _ _ (ST.assignT l st hl))
def wGs (X : Cx) (ts : List Expr) : TGs := fun vs σ H Q => ∀ pins s us, Inv X pins σ H s → Vals vs us → wpAny (model X.prog X.w) X.A (assignInOrder ((assignEach ts X.env).map (·.2)) us) (fun _ s' => ∃ σ' H', Inv X pins σ' H' s' ∧ Q σ' H') X.xe s
theorem pgsS {X : Cx} {ts : List Expr} : PGs X ts (wGs X ts) := ⟨fun pins s _ _ _ us _ I r h => h pins s us I r⟩
theorem wGs.of {X : Cx} {ts : List Expr} {g : TGs} (h : PGs X ts g) {vs : List V} {σ : L2.St} {H : Hp} {Q : L2.St → Hp → Prop} (q : g vs σ H Q) : wGs X ts vs σ H Q := fun pins s us I r => h.run pins s σ H vs us Q I r q
def XPs (X : Cx) (ts : List Expr) (ds : List PyData) (ρ ρ' : Cl) : Prop := ∀ (E : Ent) (T : Cl) (t σ : L2.St) (H : Hp) (vs : List V), T.length = t.length → vs.length = ds.length → ST E ((ds.map (aD X.K)).map some ++ (T ++ ρ)) (vs.map some ++ (t ++ σ)) H → ∀ Q : L2.St → Hp → Prop, (∀ σ' H', ST E (T ++ ρ') (t ++ σ') H' → Q σ' H') → wGs X ts vs σ H Q
theorem xps_nil : XPs X [] [] ρ ρ := fun E T t σ H vs l hl st Q k => by
  cases vs with
  | nil => exact wGs.of pgs_nil ⟨rfl, k σ H st⟩
  | cons _ _ => simp at hl
theorem xps_cons {ts : List Expr} (h : XP X tg (aD X.K d) ρ ρ1) (hr : XPs X ts ds ρ1 ρ2) (hs : (assignEach (tg :: ts) X.env).map (·.2) = assign tg X.env :: (assignEach ts X.env).map (·.2) := by rfl) : XPs X (tg :: ts) (d :: ds) ρ ρ2 := fun E T t σ H vs l hl st Q k => by
  cases vs with
  | nil => simp at hl
  | cons v vs =>
    have hl' : vs.length = ds.length := by simpa using hl
    refine wGs.of (pgs_cons pgS pgsS hs) ⟨v, vs, rfl, h E ((ds.map (aD X.K)).map some ++ T) (vs.map some ++ t) σ H v (by simp [l, hl']) (by simpa using st) _ fun σ' H' st' => ?_⟩
    exact hr E T t σ' H' vs l hl' (by simpa using st') Q k
theorem ST.untup {E : Ent} {K : PySem.W.Frag} {L : Cl} {C : L2.St} {H : Hp} {v : V} (st : ST E (some (aD K (.tuple ds)) :: L) (some v :: C) H) : ∃ a vs, v = .ref a ∧ SqT K H a vs ∧ vs.length = ds.length ∧ ST E ((ds.map (aD K)).map some ++ L) (vs.map some ++ C) H := by
  obtain ⟨G, F, f, c, q⟩ := ST.top st
  cases q with
  | tup h1 h2 => exact ⟨_, _, rfl, f.gh.st h1, h2.len, G, F, f, by simpa using (csD' h2).append c⟩
theorem xp_tup {ts : List Expr} {k : Nat} (hc : X.calm = true) (h : XPs X ts ds ρ ρ1) (hn : (assignEach ts X.env).length = ds.length := by rfl) (hst : (assignEach ts X.env).findIdx? (·.1) = none := by rfl) : XP X (.Tuple ts k pos) (aD X.K (.tuple ds)) ρ ρ1 := fun E T t σ H v l st Q kk => by
  obtain ⟨a, vs, e1, h1, h2, st2⟩ := st.untup
  exact wG.of (pg_tup hc pgsS hn hst) ⟨a, vs, e1, h1, h2, h E T t σ H vs l h2 st2 Q kk⟩
theorem xg_tgt (he : XE X e ρ ρ1 A) (hg : XP X tg A ρ1 ρ2) (h : XG X rest ρ2 m Φ) (hs : swapsWithSole [tg] e pos.line X.env = pure false := by rfl) (hw : swappedStores [tg] e X.env = pure none := by rfl)
    (h1 : (assignEach [tg] X.env).map (·.2) = [assign tg X.env] := by rfl) : XG X (.Assign [tg] e pos :: rest) ρ m Φ := fun o ho E σ H D st q =>
  wS.of (pss_cons (ps_asg peS pgS hs hw h1) pssS) (he E [] [] σ H rfl st _ fun v H' st1 => hg E [] [] σ H' v rfl st1 _ fun σ' H'' st2 => h o ho E σ' H'' D st2 q)
def foldB {α : Type} (f : β → α → Option (γ ⊕ β)) : List α → β → Option (γ ⊕ β)
  | [], s => some (.inr s)
  | x :: xs, s => thenR (f s x) (foldB f xs) Sum.inl
theorem forS {g : TG} {xs : List α} {f : β → α → Option β} {s0 : β} {In : α → β → Cl} {D : Ends} {E : Ent} {σ : L2.St} {H : Hp} {s1 : β}
    (J : It) (hs : xs.foldlM f s0 = some s1) (st : ST E (N s0) σ H) (hk : ∀ σ' H', ST E (N s1) σ' H' → D.nx σ' H')
    (go : ∀ n s σ' H', n < xs.length → ST E (N s) σ' H' → J.go n H') (stop : ∀ s σ' H', ST E (N s) σ' H' → J.stop xs.length H')
    (yld : ∀ n x s σ' H' v H2, xs[n]? = some x → ST E (N s) σ' H' → J.yld n H' v H2 → ∀ P : L2.St → Hp → Prop, (∀ σ2 H3, ST E (In x s) σ2 H3 → P σ2 H3) → g v σ' H2 P)
    (hb : ∀ x s, XG X body (In x s) (f s x) (oS N)) :
    ∃ W : Nat → Nat → L2.St → Hp → Prop, (∃ m, W 0 m σ H) ∧ ∀ i m σ H, W i m σ H →
      (J.stop i H ∧ D.nx σ H) ∨ (J.go i H ∧ ∃ Nx : L2.St → Hp → Prop, (∀ σ' H', Nx σ' H' → ∃ m', m' < m ∧ W (i + 1) m' σ' H') ∧ ∀ x H', J.yld i H x H' → g x σ H' fun σ2 H2 => wS X body { D with nx := Nx, ct := Nx, bk := D.nx } σ2 H2) := by
  refine ⟨fun n m σ H => m = xs.length - n ∧ n ≤ xs.length ∧ ∃ s, (xs.drop n).foldlM f s = some s1 ∧ ST E (N s) σ H, ⟨xs.length, by simp, Nat.zero_le _, s0, by simpa using hs, st⟩, ?_⟩
  rintro n m σ H ⟨rfl, hn, s, hf, st⟩
  by_cases hlt : n < xs.length
  · have ed : xs.drop n = xs[n] :: xs.drop (n + 1) := List.drop_eq_getElem_cons hlt
    rw [ed, List.foldlM_cons] at hf
    cases hfx : f s xs[n] with
    | none => rw [hfx] at hf; cases hf
    | some s2 =>
      rw [hfx] at hf
      refine .inr ⟨go n s σ H hlt st, fun σ' H' => ST E (N s2) σ' H', fun σ' H' st' => ⟨xs.length - (n + 1), by omega, rfl, hlt, s2, hf, st'⟩, fun v H' y => ?_⟩
      refine yld n xs[n] s σ H v H' (List.getElem?_eq_getElem hlt) st y _ fun σ2 H2 p => ?_
      exact hb xs[n] s s2 hfx E σ2 H2 _ p fun σ' H' st' => st'
  · have e : n = xs.length := by omega
    subst e
    rw [List.drop_length] at hf
    cases hf
    exact .inl ⟨stop _ σ H st, hk σ H st⟩
theorem forB {g : TG} {xs : List α} {f : β → α → Option (γ ⊕ β)} {s0 : β} {In : α → β → Cl} {D : Ends} {E : Ent} {σ : L2.St} {H : Hp} {o1 : γ ⊕ β}
    (J : It) (hs : foldB f xs s0 = some o1) (st : ST E (N s0) σ H) (hk : ∀ s1, o1 = .inr s1 → ∀ σ' H', ST E (N s1) σ' H' → D.nx σ' H') (hr : ∀ r, o1 = .inl r → oR R r E D)
    (go : ∀ n s σ' H', n < xs.length → ST E (N s) σ' H' → J.go n H') (stop : ∀ s σ' H', ST E (N s) σ' H' → J.stop xs.length H')
    (yld : ∀ n x s σ' H' v H2, xs[n]? = some x → ST E (N s) σ' H' → J.yld n H' v H2 → ∀ P : L2.St → Hp → Prop, (∀ σ2 H3, ST E (In x s) σ2 H3 → P σ2 H3) → g v σ' H2 P)
    (hb : ∀ x s, XG X body (In x s) (f s x) (oB R N)) :
    ∃ W : Nat → Nat → L2.St → Hp → Prop, (∃ m, W 0 m σ H) ∧ ∀ i m σ H, W i m σ H →
      (J.stop i H ∧ D.nx σ H) ∨ (J.go i H ∧ ∃ Nx : L2.St → Hp → Prop, (∀ σ' H', Nx σ' H' → ∃ m', m' < m ∧ W (i + 1) m' σ' H') ∧ ∀ x H', J.yld i H x H' → g x σ H' fun σ2 H2 => wS X body { D with nx := Nx, ct := Nx, bk := D.nx } σ2 H2) := by
  refine ⟨fun n m σ H => m = xs.length - n ∧ n ≤ xs.length ∧ ∃ s, foldB f (xs.drop n) s = some o1 ∧ ST E (N s) σ H, ⟨xs.length, by simp, Nat.zero_le _, s0, by simpa using hs, st⟩, ?_⟩
  rintro n m σ H ⟨rfl, hn, s, hf, st⟩
  by_cases hlt : n < xs.length
  · have ed : xs.drop n = xs[n] :: xs.drop (n + 1) := List.drop_eq_getElem_cons hlt
    rw [ed] at hf
    have hf : thenR (f s xs[n]) (foldB f (xs.drop (n + 1))) Sum.inl = some o1 := hf
    unfold thenR at hf
    cases hfx : f s xs[n] with
    | none => rw [hfx] at hf; cases hf
    | some o2 =>
      rw [hfx] at hf
      cases o2 with
      | inr s2 =>
        have hf : foldB f (xs.drop (n + 1)) s2 = some o1 := hf
        refine .inr ⟨go n s σ H hlt st, fun σ' H' => ST E (N s2) σ' H', fun σ' H' st' => ⟨xs.length - (n + 1), by omega, rfl, hlt, s2, hf, st'⟩, fun v H' y => ?_⟩
        refine yld n xs[n] s σ H v H' (List.getElem?_eq_getElem hlt) st y _ fun σ2 H2 p => ?_
        exact hb xs[n] s _ hfx E σ2 H2 _ p fun σ' H' st' => st'
      | inl r =>
        have hf : some (Sum.inl r) = some o1 := hf
        cases hf
        refine .inr ⟨go n s σ H hlt st, fun σ' H' => False, fun σ' H' st' => st'.elim, fun v H' y => ?_⟩
        refine yld n xs[n] s σ H v H' (List.getElem?_eq_getElem hlt) st y _ fun σ2 H2 p => ?_
        exact hb xs[n] s _ hfx E σ2 H2 _ p (hr r rfl)
  · have e : n = xs.length := by omega
    subst e
    rw [List.drop_length] at hf
    have hf : some (Sum.inr s) = some o1 := hf
    cases hf
    exact .inl ⟨stop s σ H st, hk s rfl σ H st⟩
end
end Mr

namespace Mr
open PySem PySem.Spec PyProof.Rows L2
def Later (E' E : Ent) : Prop := ∀ L C H, ST E' L C H → ST E L C H
theorem Later.refl (E : Ent) : Later E E := fun _ _ _ h => h
theorem Later.of {E : Ent} {G H : Hp} {F : List Addr} (f : Frm E G H F) : Later ⟨G, H, F⟩ E := fun L C H' ⟨G', F', f', c⟩ => by
  obtain ⟨f1, _⟩ := f.step (Fa := F) (Fr := []) (by simp) f'
  exact ⟨G', F', by simpa using f1, c⟩
def rangeI (lo : Int) (n : Nat) : List Int := (List.range n).map fun i : Nat => lo + (i : Int)
theorem rangeI_len (lo : Int) (n : Nat) : (rangeI lo n).length = n := by unfold rangeI; rw [List.length_map, List.length_range]
theorem rangeI_get {lo : Int} {n i : Nat} {x : Int} (h : (rangeI lo n)[i]? = some x) : x = lo + (i : Int) ∧ i < n := by
  have hl := lt_of_get h
  rw [rangeI_len] at hl
  unfold rangeI at h
  rw [List.getElem?_map, List.getElem?_range hl] at h
  cases h
  exact ⟨rfl, hl⟩
def wI (X : Cx) (tg iter : Expr) : TI := fun σ H R => ∀ pins s, Inv X pins σ H s → wpAny (model X.prog X.w) X.A (eval iter X.env) (fun v s1 => wpAny (model X.prog X.w) X.A (pyIter v) (PIE X pins σ tg R) X.xe s1) X.xe s
theorem piS {X : Cx} {tg iter : Expr} : PI X tg iter (wI X tg iter) := ⟨fun pins s _ _ _ I h => h pins s I⟩
theorem wI.of {X : Cx} {tg iter : Expr} {w : TI} (h : PI X tg iter w) {σ : L2.St} {H : Hp} {R : It → Hp → Prop} (q : w σ H R) : wI X tg iter σ H R := fun pins s I => h.run pins s σ H R I q
structure Gives {α : Type} (J : It) (E : Ent) (Ok : Cl → Prop) (xs : List α) (cv : α → OA) : Prop where
  go : ∀ n, n < xs.length → ∀ T t L C H, T.length = t.length → Ok L → ST E (T ++ L) (t ++ C) H → J.go n H
  stop : ∀ T t L C H, T.length = t.length → Ok L → ST E (T ++ L) (t ++ C) H → J.stop xs.length H
  yld : ∀ n x v H H', xs[n]? = some x → ∀ T t L C, T.length = t.length → Ok L → ST E (T ++ L) (t ++ C) H → J.yld n H v H' → ST E (some (cv x) :: (T ++ L)) (some v :: (t ++ C)) H'
def XI (X : Cx) {α : Type} (tg iter : Expr) (ρ ρ1 : Cl) (Ok : Cl → Prop) (xs : List α) (cv : α → OA) : Prop := ∀ (E : Ent) (T : Cl) (t σ : L2.St) (H : Hp), T.length = t.length → ST E (T ++ ρ) (t ++ σ) H →
  ∀ R : It → Hp → Prop, (∀ J E' H', Later E' E → ST E' (T ++ ρ1) (t ++ σ) H' → Gives J E' Ok xs cv → R J H') → wI X tg iter σ H R
abbrev okAll : Cl → Prop := fun _ => True
section
variable {X : Cx} {ρ ρ1 ρ2 ρ3 : Cl} {a b c e tg iter : Expr} {pos p2 p : Pos} {A B : OA} {d d1 d2 : PyData} {ds es : List PyData} {α β γ ω : Type}
theorem itr_gives {E : Ent} (lo : Int) (n : Nat) : Gives (Itr lo n) E okAll (rangeI lo n) (fun x => aD X.K (.int x)) where
  go := fun i hi _ _ _ _ _ _ _ _ => by rw [rangeI_len] at hi; exact hi
  stop := fun _ _ _ _ _ _ _ _ => by rw [rangeI_len]; exact Nat.le_refl _
  yld := fun i x v H H' hx T t L C l _ st y => by
    obtain ⟨e1, e2⟩ := y
    obtain ⟨e3, _⟩ := rangeI_get hx
    subst e1 e2 e3
    obtain ⟨G, F, f, c⟩ := st
    exact ST.put f c (.int _)
theorem xi_range1 {n : Int} (hg : Gl X "range") (hm : X.mg "range" = none) (ha : XE X a ρ ρ1 (aD X.K (.int n))) (hn : -(2 ^ 62) ≤ n ∧ n < 2 ^ 62) (hs : starEach [a] X.env = [(false, eval a X.env)] := by rfl) :
    XI X tg (.Call (.Name "range" p) [a] [] pos) ρ ρ1 okAll (rangeI 0 n.toNat) (fun x => aD X.K (.int x)) := fun E T t σ H l st R k =>
  wI.of (pi_range1 hg hm (pa_cons peS pa_nil hs) hs) (ha E T t σ H l st _ fun v H1 st1 => by
    obtain ⟨G, F, f, cs, q⟩ := ST.top st1
    cases q
    exact ⟨n, rfl, hn.1, hn.2, k _ E _ (.refl _) ⟨G, F, f, cs⟩ (itr_gives 0 n.toNat)⟩)
theorem itl_gives {E : Ent} {p : Addr} {vs : List V} {xs : List α} {cv : α → PyData} (h : SqL X.K E.G p vs) (q : DqAll X.K E.G vs (xs.map cv)) : Gives (Itl X.K p) E okAll xs (fun x => aD X.K (cv x)) where
  go := fun i hi T t L C H l _ st => by
    obtain ⟨G, F, f, c⟩ := st
    have hl : i < vs.length := by rw [q.len, List.length_map]; exact hi
    exact ⟨vs, vs[i], f.gh.sl (f.gg.sl h), List.getElem?_eq_getElem hl⟩
  stop := fun T t L C H l _ st => by
    obtain ⟨G, F, f, c⟩ := st
    exact ⟨vs, f.gh.sl (f.gg.sl h), by rw [q.len, List.length_map]; exact Nat.le_refl _⟩
  yld := fun i x v H H' hx T t L C l _ st y => by
    obtain ⟨G, F, f, c⟩ := st
    obtain ⟨e1, e2⟩ := y
    have e3 := e2 vs (f.gh.sl (f.gg.sl h))
    obtain ⟨w, e4, e5⟩ := q.get (i := i) (d := cv x) (by rw [List.getElem?_map, hx]; rfl)
    rw [e3] at e4
    cases e4
    subst e1
    exact ST.put f c (Dq.mono f.gg _ _ e5)
theorem itt_gives {E : Ent} {p : Addr} {vs : List V} {xs : List α} {cv : α → PyData} (h : SqT X.K E.G p vs) (q : DqAll X.K E.G vs (xs.map cv)) : Gives (Itt X.K p) E okAll xs (fun x => aD X.K (cv x)) where
  go := fun i hi T t L C H l _ st => by
    obtain ⟨G, F, f, c⟩ := st
    have hl : i < vs.length := by rw [q.len, List.length_map]; exact hi
    exact ⟨vs, vs[i], f.gh.st (f.gg.st h), List.getElem?_eq_getElem hl⟩
  stop := fun T t L C H l _ st => by
    obtain ⟨G, F, f, c⟩ := st
    exact ⟨vs, f.gh.st (f.gg.st h), by rw [q.len, List.length_map]; exact Nat.le_refl _⟩
  yld := fun i x v H H' hx T t L C l _ st y => by
    obtain ⟨G, F, f, c⟩ := st
    obtain ⟨e1, e2⟩ := y
    have e3 := e2 vs (f.gh.st (f.gg.st h))
    obtain ⟨w, e4, e5⟩ := q.get (i := i) (d := cv x) (by rw [List.getElem?_map, hx]; rfl)
    rw [e3] at e4
    cases e4
    subst e1
    exact ST.put f c (Dq.mono f.gg _ _ e5)
theorem xi_list {xs : List α} {cv : α → PyData} (h : XE X iter ρ ρ1 (aD X.K (.list (xs.map cv)))) : XI X tg iter ρ ρ1 okAll xs (fun x => aD X.K (cv x)) := fun E T t σ H l st R k =>
  wI.of (pi_list peS) (h E T t σ H l st _ fun v H1 st1 => by
    obtain ⟨G, F, f, cs, q⟩ := ST.top st1
    cases q with
    | lst h1 h2 => exact ⟨_, rfl, ⟨_, .inl (.inl (f.gh _ _ h1))⟩, k _ ⟨G, H1, F⟩ _ (Later.of f) ⟨G, F, f.start, cs⟩ (itl_gives (.inl (.inl h1)) h2)⟩)
theorem xi_tup {xs : List α} {cv : α → PyData} (h : XE X iter ρ ρ1 (aD X.K (.tuple (xs.map cv)))) : XI X tg iter ρ ρ1 okAll xs (fun x => aD X.K (cv x)) := fun E T t σ H l st R k =>
  wI.of (pi_tup peS) (h E T t σ H l st _ fun v H1 st1 => by
    obtain ⟨G, F, f, cs, q⟩ := ST.top st1
    cases q with
    | tup h1 h2 => exact ⟨_, rfl, ⟨_, f.gh.st h1⟩, k _ ⟨G, H1, F⟩ _ (Later.of f) ⟨G, F, f.start, cs⟩ (itt_gives h1 h2)⟩)
variable {body rest : List Stmt} {m : Option ω} {Φ : ω → Ent → Ends → Prop} {R : γ → Cl} {N : β → Cl}
theorem xg_for {Ok : Cl → Prop} {xs : List α} {cv : α → OA} {f : β → α → Option β} {s0 : β} {In : α → β → Cl} {kk : β → Option ω} (hp : PassesOwn (model X.prog X.w) X.A X.env X.xe) (hc : X.calm = true) (hi : XI X tg iter ρ ρ1 Ok xs cv) (hw : Wk ρ1 (N s0)) (hok : ∀ s, Ok (N s))
    (ht : ∀ x s, XP X tg (cv x) (N s) (In x s)) (hb : ∀ x s, XG X body (In x s) (f s x) (oS N)) (h : ∀ s, XG X rest (N s) (kk s) Φ) (hs : ∀ x, foldedSetIterable iter X.env x = pure x := by intro _; rfl) :
    XG X (.For tg iter body [] pos :: rest) ρ ((xs.foldlM f s0).bind kk) Φ :=
  xg_bind fun s1 h1 o ho E σ H D st q => wS.of (pss_cons (ps_for hp hc piS pgS pssS hs) pssS) (hi E [] [] σ H rfl st _ fun J E' H' lt st' gv =>
    forS (N := N) (In := In) (E := E') J h1 (st'.wk hw) (fun σ' H' s2 => h s1 o ho E σ' H' D (lt _ _ _ s2) q)
      (fun n s σ' H' hn st2 => gv.go n hn [] [] _ _ _ rfl (hok s) st2) (fun s σ' H' st2 => gv.stop [] [] _ _ _ rfl (hok s) st2)
      (fun n x s σ' H' v H2 hx st2 y P hP => ht x s E' [] [] σ' H2 v rfl (gv.yld n x v H' H2 hx [] [] _ _ rfl (hok s) st2 y) P hP) hb)
theorem xg_forR {Ok : Cl → Prop} {xs : List α} {cv : α → OA} {f : β → α → Option (γ ⊕ β)} {s0 : β} {In : α → β → Cl} {kk : β → Option γ} (hp : PassesOwn (model X.prog X.w) X.A X.env X.xe) (hc : X.calm = true) (hi : XI X tg iter ρ ρ1 Ok xs cv) (hw : Wk ρ1 (N s0)) (hok : ∀ s, Ok (N s))
    (ht : ∀ x s, XP X tg (cv x) (N s) (In x s)) (hb : ∀ x s, XG X body (In x s) (f s x) (oB R N)) (h : ∀ s, XG X rest (N s) (kk s) (oR R)) (hs : ∀ x, foldedSetIterable iter X.env x = pure x := by intro _; rfl) :
    XG X (.For tg iter body [] pos :: rest) ρ (thenR (foldB f xs s0) kk id) (oR R) :=
  xg_bind fun s1 h1 o ho E σ H D st q => wS.of (pss_cons (ps_for hp hc piS pgS pssS hs) pssS) (hi E [] [] σ H rfl st _ fun J E' H' lt st' gv =>
    forB (N := N) (In := In) (E := E') (R := R) J h1 (st'.wk hw) (fun s e σ' H' s2 => by
        subst e
        exact h s o ho E σ' H' D (lt _ _ _ s2) q)
      (fun r e => by
        subst e
        cases ho
        exact fun v σ' H' s2 => q v σ' H' (lt _ _ _ s2))
      (fun n s σ' H' hn st2 => gv.go n hn [] [] _ _ _ rfl (hok s) st2) (fun s σ' H' st2 => gv.stop [] [] _ _ _ rfl (hok s) st2)
      (fun n x s σ' H' v H2 hx st2 y P hP => ht x s E' [] [] σ' H2 v rfl (gv.yld n x v H' H2 hx [] [] _ _ rfl (hok s) st2 y) P hP) hb)
theorem xg_forRB {β' : Type} {N' : β' → Cl} {Ok : Cl → Prop} {xs : List α} {cv : α → OA} {f : β → α → Option (γ ⊕ β)} {s0 : β} {In : α → β → Cl} {kk : β → Option (γ ⊕ β')} (hp : PassesOwn (model X.prog X.w) X.A X.env X.xe) (hc : X.calm = true) (hi : XI X tg iter ρ ρ1 Ok xs cv) (hw : Wk ρ1 (N s0)) (hok : ∀ s, Ok (N s))
    (ht : ∀ x s, XP X tg (cv x) (N s) (In x s)) (hb : ∀ x s, XG X body (In x s) (f s x) (oB R N)) (h : ∀ s, XG X rest (N s) (kk s) (oB R N')) (hs : ∀ x, foldedSetIterable iter X.env x = pure x := by intro _; rfl) :
    XG X (.For tg iter body [] pos :: rest) ρ (thenR (foldB f xs s0) kk Sum.inl) (oB R N') :=
  xg_bind fun s1 h1 o ho E σ H D st q => wS.of (pss_cons (ps_for hp hc piS pgS pssS hs) pssS) (hi E [] [] σ H rfl st _ fun J E' H' lt st' gv =>
    forB (N := N) (In := In) (E := E') (R := R) J h1 (st'.wk hw) (fun s e σ' H' s2 => by
        subst e
        exact h s o ho E σ' H' D (lt _ _ _ s2) q)
      (fun r e => by
        subst e
        cases ho
        exact fun v σ' H' s2 => q v σ' H' (lt _ _ _ s2))
      (fun n s σ' H' hn st2 => gv.go n hn [] [] _ _ _ rfl (hok s) st2) (fun s σ' H' st2 => gv.stop [] [] _ _ _ rfl (hok s) st2)
      (fun n x s σ' H' v H2 hx st2 y P hP => ht x s E' [] [] σ' H2 v rfl (gv.yld n x v H' H2 hx [] [] _ _ rfl (hok s) st2 y) P hP) hb)
end
end Mr

namespace Mr
open PySem PySem.Spec PyProof.Rows L2
def SpM {δ γ : Type} (pre : δ → List OA) (m : δ → Option γ) (post : δ → γ → Cl) (ret : δ → γ → OA) : Sp := fun vs H Q _ => ∃ (x : δ) (r : γ) (G : Hp) (F : List Addr), m x = some r ∧ Frm ⟨G, H, F⟩ G H F ∧ Cs G H ((pre x).map some) (vs.map some) F ∧ vs.length = (pre x).length ∧
  ∀ v H', ST ⟨G, H, F⟩ (some (ret x r) :: post x r) (some v :: vs.map some) H' → Q v H'
def pinF : List Bool → List OA → List V → Cl
  | true :: fs, A :: As, v :: vs => some (pin v A) :: pinF fs As vs
  | false :: fs, A :: As, _ :: vs => some A :: pinF fs As vs
  | _, _, _ => []
def pinP : Cl → List V → Cl
  | some A :: As, v :: vs => some (pin v A) :: pinP As vs
  | none :: As, _ :: vs => none :: pinP As vs
  | _, _ => []
theorem Cs.nones {G H : Hp} : ∀ n : Nat, Cs G H (List.replicate n none) (List.replicate n none) []
  | 0 => rfl
  | n + 1 => Cs.nones n
theorem Cs.pinF {G H : Hp} : ∀ {fs : List Bool} {As : List OA} {vs : List V} {F : List Addr}, fs.length = As.length → Cs G H (As.map some) (vs.map some) F → Cs G H (Mr.pinF fs As vs) (vs.map some) F
  | [], [], [], _, _, c => c
  | [], [], _ :: _, _, _, c => c.elim
  | [], _ :: _, _, _, l, _ => by simp at l
  | _ :: _, [], _, _, l, _ => by simp at l
  | _ :: _, _ :: _, [], _, _, c => c.elim
  | true :: fs, A :: As, v :: vs, F, l, c => by
    obtain ⟨w, F1, F2, e1, e2, a, c⟩ := c
    cases e1
    exact ⟨v, F1, F2, rfl, e2, ⟨rfl, a⟩, c.pinF (by simpa using l)⟩
  | false :: fs, A :: As, v :: vs, F, l, c => by
    obtain ⟨w, F1, F2, e1, e2, a, c⟩ := c
    cases e1
    exact ⟨v, F1, F2, rfl, e2, a, c.pinF (by simpa using l)⟩
theorem Cs.noneF {G H : Hp} : ∀ {n : Nat} {σ : L2.St} {F : List Addr}, Cs G H (List.replicate n none) σ F → F = []
  | 0, [], _, c => c
  | 0, _ :: _, _, c => c.elim
  | n + 1, [], _, c => c.elim
  | n + 1, _ :: σ, F, c => Cs.noneF (n := n) (σ := σ) c
theorem Cs.pinP {G H : Hp} {n : Nat} : ∀ {P : Cl} {vs : List V} {σ : L2.St} {F : List Addr}, P.length = vs.length → Cs G H (Mr.pinP P vs ++ List.replicate n none) σ F → Cs G H P (vs.map some) F
  | [], [], σ, F, _, c => Cs.noneF c
  | [], _ :: _, _, _, l, _ => by simp at l
  | _ :: _, [], _, _, l, _ => by simp at l
  | none :: P, _ :: vs, [], _, l, c => c.elim
  | some A :: P, _ :: vs, [], _, l, c => c.elim
  | none :: P, v :: vs, y :: σ, F, l, c => Cs.pinP (P := P) (vs := vs) (σ := σ) (by simpa using l) c
  | some A :: P, v :: vs, y :: σ, F, l, c => by
    obtain ⟨w, F1, F2, e1, e2, ⟨e3, a⟩, c⟩ := c
    subst e3
    exact ⟨w, F1, F2, rfl, e2, a, Cs.pinP (by simpa using l) c⟩
section
variable {P : Program} {w : World} {K : PySem.W.Frag} {mg : Str → Option Value} {base : Heap} {δ γ : Type} {pre : δ → List OA} {m : δ → Option γ} {post : δ → γ → Cl} {ret : δ → γ → OA}
theorem start_cs {G H : Hp} {fs : List Bool} {As : List OA} {vs : List V} {F : List Addr} {N : List Str} (l : fs.length = As.length) (c : Cs G H (As.map some) (vs.map some) F) : Cs G H (pinF fs As vs ++ List.replicate (N.length - vs.length) none) (L2.start N vs) F := by
  have q := (c.pinF l).append (Cs.nones (G := G) (H := H) (N.length - vs.length))
  simpa [L2.start] using q
theorem fn_ok {x qual : Str} {st : Stmt} {f : Addr} {fd : FuncData} {N ps : List Str} {k : Nat} (fs : List Bool) (F : Fun K x qual st f fd) (S : FnScope N ps (defScope st)) (hf : fs.length = ps.length) (hp : ∀ x, (pre x).length = ps.length) (hq : ∀ x r, (post x r).length = ps.length)
    (hb : ∀ (x : δ) (vs : List V) (cdv : Value) (A : Around) (outer : List Env) (s : Shared) (H : Hp) (E : XK), vs.length = ps.length → Room k (A.deeper (envOfC qual (defScope st) s.heap.objs.size f cdv)) →
      XG (cxOf CX0 P w K mg base N qual (defScope st) f cdv A outer s H E).nox (defBody st) (pinF fs (pre x) vs ++ List.replicate (N.length - vs.length) none) (m x) (oR fun r => some (ret x r) :: (pinP (post x r) vs ++ List.replicate (N.length - vs.length) none))) :
    FnOk P w K mg base CX0 (k + 1) f fd ps (SpM pre m post ret) := by
  refine F.ok S (fun vs H Q E h => ?_) (fun cdv A outer s H vs Q E hr h => ?_)
  · obtain ⟨x, r, G, F, _, _, c, hl, _⟩ := h
    exact hl.trans (hp x)
  · obtain ⟨x, r, G, F, hm, f, c, hl, q⟩ := h
    have hv : vs.length = ps.length := hl.trans (hp x)
    refine ⟨_, pssS, hb x vs cdv A outer s H E hv hr r hm ⟨G, H, F⟩ (L2.start N vs) H _ ⟨G, F, f, start_cs (hf.trans (hp x).symm) c⟩ fun v σ' H' st => q v H' ?_⟩
    obtain ⟨G', F', f', v', F1, F2, e1, e2, a, c'⟩ := st
    exact ⟨G', F', f', v', F1, F2, e1, e2, a, c'.pinP ((hq x r).trans hv.symm)⟩
theorem fn_okN {x qual : Str} {st : Stmt} {f : Addr} {fd : FuncData} {N ps : List Str} {k : Nat} (fs : List Bool) (F : Fun K x qual st f fd) (S : FnScope N ps (defScope st)) (hf : fs.length = ps.length) (hp : ∀ x, (pre x).length = ps.length) (hq : ∀ x r, (post x r).length = ps.length)
    (hb : ∀ (x : δ) (vs : List V) (cdv : Value) (A : Around) (outer : List Env) (s : Shared) (H : Hp) (E : XK), vs.length = ps.length → Room k (A.deeper (envOfC qual (defScope st) s.heap.objs.size f cdv)) →
      XG (cxOf CX0 P w K mg base N qual (defScope st) f cdv A outer s H E).nox (defBody st) (pinF fs (pre x) vs ++ List.replicate (N.length - vs.length) none) (m x) (oS fun r => (pinP (post x r) vs ++ List.replicate (N.length - vs.length) none))) :
    FnOk P w K mg base CX0 (k + 1) f fd ps (SpM pre m post fun _ _ => aD K .none) := by
  refine F.ok S (fun vs H Q E h => ?_) (fun cdv A outer s H vs Q E hr h => ?_)
  · obtain ⟨x, r, G, F, _, _, c, hl, _⟩ := h
    exact hl.trans (hp x)
  · obtain ⟨x, r, G, F, hm, f, c, hl, q⟩ := h
    have hv : vs.length = ps.length := hl.trans (hp x)
    refine ⟨_, pssS, hb x vs cdv A outer s H E hv hr r hm ⟨G, H, F⟩ (L2.start N vs) H _ ⟨G, F, f, start_cs (hf.trans (hp x).symm) c⟩ fun σ' H' st => q .non H' ?_⟩
    obtain ⟨G', F', f', c'⟩ := st
    exact ST.put f' (c'.pinP ((hq x r).trans hv.symm)) .non
end
structure Cal (P : Program) (w : World) (K : PySem.W.Frag) (mg : Str → Option Value) (base : Heap) (k : Nat) (x : Str) (sp : Sp) : Prop where
  ex : ∃ (f : Addr) (fd : FuncData) (ps : List Str), FnOk P w K mg base CX0 k f fd ps sp ∧ mg x = some (.ref f) ∧ PySem.W.keepIn K (.ref f) = true ∧ Binds K fd ps []
def backs (P : Cl) : List (Nat × Nat × V) → Cl → Cl
  | [], ρ => ρ
  | (j, i, v) :: ls, ρ => match P[j]? with
    | some (some A) => (backs P ls ρ).set i (some (pin v A))
    | _ => backs P ls ρ
section
variable {X : Cx} {ρ ρ1 ρ2 ρ3 : Cl} {a b c e : Expr} {es : List Expr} {pos p : Pos} {A B : OA} {As : List OA} {ls : List (Nat × Nat × V)} {δ γ : Type} {pre : δ → List OA} {m : δ → Option γ} {post : δ → γ → Cl} {ret : δ → γ → OA}
theorem Frm.sub {E : Ent} {G H : Hp} {F F1 : List Addr} (h : Frm E G H F) (n : F1.Nodup) (p : ∀ b ∈ F1, b ∈ F) : Frm E G H F1 :=
  ⟨h.gg, h.gh, n, fun b hb => h.dis b (p b hb), fun b hb => h.live b (p b hb), h.keep, fun b hb => h.fp b (p b hb), h.gn⟩
theorem cs_backs {G H : Hp} {T : Cl} {t σ : L2.St} {vs : List V} (l : T.length = t.length) : ∀ (ls : List (Nat × Nat × V)) (P ρ : Cl) (F : List Addr), P.length = vs.length → (ls.map (·.1)).Nodup → (∀ p ∈ ls, vs[p.1]? = some p.2.2 ∧ σ[p.2.1]? = some (some p.2.2) ∧ ρ[p.2.1]? = some none) → (ls.map (·.2.1)).Nodup →
    Cs G H (P ++ (T ++ ρ)) (vs.map some ++ (t ++ σ)) F → F.Nodup → ∃ F1, F1.Nodup ∧ (∀ b ∈ F1, b ∈ F) ∧ Cs G H (T ++ backs P ls ρ) (t ++ σ) F1
  | [], P, ρ, F, hl, _, _, _, c, nF => by
    obtain ⟨F1, F2, e1, c1, c2⟩ := c.unappend (by simp [hl])
    subst e1
    exact ⟨F2, (List.nodup_append.mp nF).2.1, fun b hb => List.mem_append_right _ hb, c2⟩
  | (j, i, v) :: ls, P, ρ, F, hl, nd, hp, nd2, c, nF => by
    obtain ⟨h1, h2, h4⟩ := hp (j, i, v) (by simp)
    have nd1 := (List.nodup_cons.mp nd)
    have nd3 := (List.nodup_cons.mp nd2)
    have hp1 : ∀ p ∈ ls, vs[p.1]? = some p.2.2 ∧ σ[p.2.1]? = some (some p.2.2) ∧ ρ[p.2.1]? = some none := fun p h => hp p (List.mem_cons_of_mem _ h)
    have lj : j < P.length := by rw [hl]; exact lt_of_get h1
    cases hP : P[j]? with
    | none => rw [List.getElem?_eq_none_iff] at hP; omega
    | some o =>
      cases o with
      | none =>
        obtain ⟨F1, a, b, c1⟩ := cs_backs l ls P ρ F hl nd1.2 hp1 nd3.2 c nF
        refine ⟨F1, a, b, ?_⟩
        unfold backs
        rw [hP]
        exact c1
      | some A =>
        obtain ⟨w, F1, F2, e1, e2, q, c1⟩ := c.split (i := j) (A := A) (by rw [List.getElem?_append_left lj, hP])
        rw [List.set_append_left _ _ lj] at c1
        have ev : w = v := by
          rw [List.getElem?_append_left (by simp; omega), List.getElem?_map, h1] at e1
          cases e1; rfl
        subst ev
        have nF2 := (e2.nodup_iff).mp nF
        obtain ⟨m1, m2, m3⟩ := List.nodup_append.mp nF2
        obtain ⟨F3, a, b, c2⟩ := cs_backs l ls (P.set j none) ρ F2 (by simpa using hl) nd1.2 hp1 nd3.2 c1 m2
        have eb : backs (P.set j none) ls ρ = backs P ls ρ := by
          have key : ∀ l2 : List (Nat × Nat × V), (∀ p ∈ l2, p.1 ≠ j) → backs (P.set j none) l2 ρ = backs P l2 ρ := fun l2 => by
            induction l2 with
            | nil => intro _; rfl
            | cons p l2 ih =>
              intro hj
              obtain ⟨j2, i2, v2⟩ := p
              have n : j2 ≠ j := hj (j2, i2, v2) (by simp)
              unfold backs
              rw [List.getElem?_set_ne (fun z => n z.symm), ih fun p hp => hj p (List.mem_cons_of_mem _ hp)]
          exact key ls fun p hp z => nd1.1 (List.mem_map.mpr ⟨p, hp, z⟩)
        rw [eb] at c2
        have fr : ∀ l2 : List (Nat × Nat × V), (∀ p ∈ l2, p.2.1 ≠ i) → (backs P l2 ρ)[i]? = some none := fun l2 => by
          induction l2 with
          | nil => intro _; exact h4
          | cons p l2 ih =>
            intro hi
            obtain ⟨j2, i2, v2⟩ := p
            have n : i2 ≠ i := hi (j2, i2, v2) (by simp)
            have q := ih fun p hp => hi p (List.mem_cons_of_mem _ hp)
            unfold backs
            split
            · rw [List.getElem?_set_ne n]; exact q
            · exact q
        have g1 := fr ls fun p hp z => nd3.1 (List.mem_map.mpr ⟨p, hp, z⟩)
        have c3 : Cs G H (T ++ (backs P ls ρ).set i none) (t ++ σ) F3 := by rw [set_get g1]; exact c2
        obtain ⟨F4, e4, c4⟩ := c3.back l (lt_of_get g1) h2 (A := pin w A) (F1 := F1) ⟨rfl, q⟩
        refine ⟨F4, (e4.nodup_iff).mpr (List.nodup_append.mpr ⟨m1, a, fun x hx y hy => m3 x hx y (b y hy)⟩), fun x hx => ?_, ?_⟩
        · refine e2.mem_iff.mpr (List.mem_append.mpr ?_)
          rcases List.mem_append.mp (e4.mem_iff.mp hx) with z | z
          · exact .inl z
          · exact .inr (b x z)
        · unfold backs
          rw [hP]
          exact c4
end
section
variable {X : Cx} {ρ ρ1 ρ2 ρ3 : Cl} {a b c e : Expr} {es : List Expr} {pos p : Pos} {A B : OA} {As : List OA} {d : PyData} {ds : List PyData}
theorem xe_callB {id : String} {x : Str} {r : List V → Hp → VK → Prop} (hc : CallR X (.builtin id) r) (ha : XA X (e :: es) ρ ρ1 As)
    (hr : ∀ E T t σ vs H Q, T.length = t.length → vs.length = As.length → ST E (As.map some ++ (T ++ ρ1)) (vs.map some ++ (t ++ σ)) H → (∀ v H', ST E (some B :: (T ++ ρ1)) (some v :: (t ++ σ)) H' → Q v H') → r vs H Q)
    (hm : X.mg x = none) (hv : bootBuiltins x = some (.builtin id)) (hg : Gl X x := by rfl) (hn : x ≠ "__name__" := by decide) (hdb : (x == ("__debug__" : Str)) = false := by decide)
    (he : starEach (e :: es) X.env = (false, eval e X.env) :: starEach es X.env := by rfl) (hpl : (backTo pos (starEach es X.env)).any (·.1) = false := by rfl) : XE X (.Call (.Name x p) (e :: es) [] pos) ρ ρ1 B := fun E T t σ H l st Q k =>
  wE.of (pe_callB hc hg hm hv paS hn hdb he hpl) (ha E T t σ H l st _ fun vs H' hl st' => hr E T t σ vs H' Q l hl st' k)
theorem xe_callTy {id : String} {x : Str} {r : List V → Hp → VK → Prop} (hc : CallR X (.type id) r) (ha : XA X (e :: es) ρ ρ1 As)
    (hr : ∀ E T t σ vs H Q, T.length = t.length → vs.length = As.length → ST E (As.map some ++ (T ++ ρ1)) (vs.map some ++ (t ++ σ)) H → (∀ v H', ST E (some B :: (T ++ ρ1)) (some v :: (t ++ σ)) H' → Q v H') → r vs H Q)
    (hm : X.mg x = none) (hv : bootBuiltins x = some (.type id)) (hg : Gl X x := by rfl) (hn : x ≠ "__name__" := by decide) (hdb : (x == ("__debug__" : Str)) = false := by decide)
    (he : starEach (e :: es) X.env = (false, eval e X.env) :: starEach es X.env := by rfl) (hpl : (backTo pos (starEach es X.env)).any (·.1) = false := by rfl) : XE X (.Call (.Name x p) (e :: es) [] pos) ρ ρ1 B := fun E T t σ H l st Q k =>
  wE.of (pe_callTy hc hg hm hv paS hn hdb he hpl) (ha E T t σ H l st _ fun vs H' hl st' => hr E T t σ vs H' Q l hl st' k)
theorem vs1 {vs : List V} (h : vs.length = 1) : ∃ v, vs = [v] := by
  match vs, h with
  | [v], _ => exact ⟨v, rfl⟩
theorem vs2 {vs : List V} (h : vs.length = 2) : ∃ v w, vs = [v, w] := by
  match vs, h with
  | [v, w], _ => exact ⟨v, w, rfl⟩
theorem xe_len {n : Nat} (ha : XE X a ρ ρ1 A) (r : Rsq X.K ρ1 A n) (hm : X.mg "len" = none) (hg : Gl X "len" := by rfl) (hs : starEach [a] X.env = [(false, eval a X.env)] := by rfl) (hpl : (backTo pos (starEach [] X.env)).any (·.1) = false := by rfl) : XE X (.Call (.Name "len" p) [a] [] pos) ρ ρ1 (aD X.K (.int n)) :=
  xe_callB call_len_seq (xa_cons ha xa_nil hs) (fun E T t σ vs H Q l hl st k => by
    obtain ⟨v, rfl⟩ := vs1 hl
    obtain ⟨G, F, Fv, f, cs, q⟩ := ST.one st
    obtain ⟨p, xs, e1, e2, e3⟩ := r l cs f.gh q
    exact ⟨p, xs, by rw [e1], e2, by rw [e3]; exact k _ H (ST.put f cs (.int _))⟩) hm PySem.boot_len hg (by decide) (by decide) hs hpl
theorem xe_int1 {i : Int} (ha : XE X a ρ ρ1 (aD X.K (.int i))) (hm : X.mg "int" = none) (hg : Gl X "int" := by rfl) (hs : starEach [a] X.env = [(false, eval a X.env)] := by rfl) (hpl : (backTo pos (starEach [] X.env)).any (·.1) = false := by rfl) : XE X (.Call (.Name "int" p) [a] [] pos) ρ ρ1 (aD X.K (.int i)) :=
  xe_callTy call_int1 (xa_cons ha xa_nil hs) (fun E T t σ vs H Q l hl st k => by
    obtain ⟨v, rfl⟩ := vs1 hl
    obtain ⟨G, F, f, cs, q⟩ := ST.top st
    cases q
    exact .inl ⟨i, rfl, k _ H (ST.put f cs (.int _))⟩) hm (by decide +kernel) hg (by decide) (by decide) hs hpl
theorem xe_int1b {i : Bool} (ha : XE X a ρ ρ1 (aD X.K (.bool i))) (hm : X.mg "int" = none) (hg : Gl X "int" := by rfl) (hs : starEach [a] X.env = [(false, eval a X.env)] := by rfl) (hpl : (backTo pos (starEach [] X.env)).any (·.1) = false := by rfl) : XE X (.Call (.Name "int" p) [a] [] pos) ρ ρ1 (aD X.K (.int (if i then 1 else 0))) :=
  xe_callTy call_int1 (xa_cons ha xa_nil hs) (fun E T t σ vs H Q l hl st k => by
    obtain ⟨v, rfl⟩ := vs1 hl
    obtain ⟨G, F, f, cs, q⟩ := ST.top st
    cases q
    exact .inr ⟨i, rfl, k _ H (ST.put f cs (.int _))⟩) hm (by decide +kernel) hg (by decide) (by decide) hs hpl
theorem xe_abs {i : Int} (ha : XE X a ρ ρ1 (aD X.K (.int i))) (hm : X.mg "abs" = none) (hg : Gl X "abs" := by rfl) (hs : starEach [a] X.env = [(false, eval a X.env)] := by rfl) (hpl : (backTo pos (starEach [] X.env)).any (·.1) = false := by rfl) : XE X (.Call (.Name "abs" p) [a] [] pos) ρ ρ1 (aD X.K (.int (if i < 0 then -i else i))) :=
  xe_callB call_abs (xa_cons ha xa_nil hs) (fun E T t σ vs H Q l hl st k => by
    obtain ⟨v, rfl⟩ := vs1 hl
    obtain ⟨G, F, f, cs, q⟩ := ST.top st
    cases q
    exact ⟨i, rfl, k _ H (ST.put f cs (.int _))⟩) hm (by decide +kernel) hg (by decide) (by decide) hs hpl
variable {i j : Int}
theorem xe_max2 (hc : X.calm = true) (ha : XE X a ρ ρ1 (aD X.K (.int i))) (hb : XE X b ρ1 ρ2 (aD X.K (.int j))) (hm : X.mg "max" = none) (hg : Gl X "max" := by rfl) (hs : starEach [a, b] X.env = (false, eval a X.env) :: starEach [b] X.env := by rfl) (hs2 : starEach [b] X.env = [(false, eval b X.env)] := by rfl) (hpl : (backTo pos (starEach [b] X.env)).any (·.1) = false := by rfl) :
    XE X (.Call (.Name "max" p) [a, b] [] pos) ρ ρ2 (aD X.K (.int (max i j))) :=
  xe_callB (call_max2 hc) (xa_cons ha (xa_cons hb xa_nil hs2) hs) (fun E T t σ vs H Q l hl st k => by
    obtain ⟨v, w, rfl⟩ := vs2 hl
    obtain ⟨G, F, f, cs, q⟩ := ST.args (ds := [.int i, .int j]) rfl st
    cases q with
    | cons q1 q => cases q with
      | cons q2 q =>
        cases q1
        cases q2
        refine ⟨i, j, rfl, ?_⟩
        have e : (if j > i then j else i) = max i j := by rw [Int.max_def]; split <;> split <;> omega
        rw [e]
        exact k _ H (ST.put f cs (.int _))) hm (by decide +kernel) hg (by decide) (by decide) hs hpl
theorem xe_min2 (hc : X.calm = true) (ha : XE X a ρ ρ1 (aD X.K (.int i))) (hb : XE X b ρ1 ρ2 (aD X.K (.int j))) (hm : X.mg "min" = none) (hg : Gl X "min" := by rfl) (hs : starEach [a, b] X.env = (false, eval a X.env) :: starEach [b] X.env := by rfl) (hs2 : starEach [b] X.env = [(false, eval b X.env)] := by rfl) (hpl : (backTo pos (starEach [b] X.env)).any (·.1) = false := by rfl) :
    XE X (.Call (.Name "min" p) [a, b] [] pos) ρ ρ2 (aD X.K (.int (min i j))) :=
  xe_callB (call_min2 hc) (xa_cons ha (xa_cons hb xa_nil hs2) hs) (fun E T t σ vs H Q l hl st k => by
    obtain ⟨v, w, rfl⟩ := vs2 hl
    obtain ⟨G, F, f, cs, q⟩ := ST.args (ds := [.int i, .int j]) rfl st
    cases q with
    | cons q1 q => cases q with
      | cons q2 q =>
        cases q1
        cases q2
        refine ⟨i, j, rfl, ?_⟩
        have e : (if j < i then j else i) = min i j := by rw [Int.min_def]; split <;> split <;> omega
        rw [e]
        exact k _ H (ST.put f cs (.int _))) hm (by decide +kernel) hg (by decide) (by decide) hs hpl
theorem xe_list (ha : XE X a ρ ρ1 A) (r : Rls X.K ρ1 A ds) (hm : X.mg "list" = none) (hg : Gl X "list" := by rfl) (hs : starEach [a] X.env = [(false, eval a X.env)] := by rfl) (hpl : (backTo pos (starEach [] X.env)).any (·.1) = false := by rfl) : XE X (.Call (.Name "list" p) [a] [] pos) ρ ρ1 (aLD X.K ds) :=
  xe_callTy call_list_of (xa_cons ha xa_nil hs) (fun E T t σ vs H Q l hl st k => by
    obtain ⟨v, rfl⟩ := vs1 hl
    obtain ⟨G, F, Fv, f, cs, q⟩ := ST.one st
    obtain ⟨p, xs, e1, e2, e3⟩ := r l cs f.gh q
    exact ⟨p, xs, by rw [e1], .inl e2, fun p hp => k _ _ (ST.newL f cs hp e3)⟩) hm (by decide +kernel) hg (by decide) (by decide) hs hpl
end
end Mr

namespace Mr
open PySem PySem.Spec PyProof.Rows L2
theorem ST.modL {E : Ent} {T ρ : Cl} {t σ : L2.St} {H : Hp} {B : OA} {y v0 : V} {i : Nat} {As : List OA} (l : T.length = t.length) (st : ST E (some B :: (T ++ ρ)) (some y :: (t ++ σ)) H) (hi : ρ[i]? = some (some (pin v0 (aL As)))) :
    ∃ p vs, v0 = .ref p ∧ H p = some (.lst vs) ∧ vs.length = As.length ∧ ∀ (As' : List OA) (vs' : List V),
      (∀ G H F1 F2, Cs G H (As.map some) (vs.map some) F1 → B.P G H y F2 → ∃ F3, (∀ b ∈ F3, b ∈ F1 ++ F2) ∧ ((F1 ++ F2).Nodup → F3.Nodup) ∧ Cs G H (As'.map some) (vs'.map some) F3) →
      ST E (T ++ ρ.set i (some (pin v0 (aL As')))) (t ++ σ) (upd H p (.lst vs')) := by
  obtain ⟨G, F, f, y', Fb, F0, e1, e2, hb, cs⟩ := st
  cases e1
  subst e2
  obtain ⟨v, F1, F2, e3, e4, ⟨e5, p, vs, F', e6, e7, h1, c1⟩, c2⟩ := cs.slot l hi
  subst e5 e6 e7
  refine ⟨p, vs, rfl, h1, by simpa using c1.len.symm, fun As' vs' k => ?_⟩
  have perm : (Fb ++ F0).Perm ((p :: (F' ++ Fb)) ++ F2) := by
    refine (List.Perm.append_left Fb e4).trans ?_
    have q : (Fb ++ (p :: F' ++ F2)).Perm ((p :: F' ++ F2) ++ Fb) := List.perm_append_comm
    refine q.trans ?_
    show (p :: (F' ++ F2 ++ Fb)).Perm (p :: ((F' ++ Fb) ++ F2))
    refine List.Perm.cons p ?_
    rw [List.append_assoc, List.append_assoc]
    exact List.Perm.append_left F' List.perm_append_comm
  have f1 := f.perm perm
  have f2 : Frm ⟨G, H, p :: (F' ++ Fb)⟩ G H (p :: (F' ++ Fb)) := (f1.less (List.sublist_append_left _ _)).start
  have f3 := Frm.write (o := .lst vs') f2
  have nd := f2.nd
  have np : ∀ b ∈ F' ++ Fb, b ≠ p := fun b hb z => by
    subst z
    exact (List.nodup_cons.mp nd).1 hb
  have keep : ∀ b ∈ F' ++ Fb, ∀ o, H b = some o → upd H p (.lst vs') b = some o := fun b hb o q => by rw [upd_ne (np b hb)]; exact q
  obtain ⟨F3, k1, k2, k3⟩ := k G (upd H p (.lst vs')) F' Fb (c1.mono (.refl _) f3.gh fun b hb => keep b (List.mem_append_left _ hb)) (B.mono hb (.refl _) f3.gh fun b hb => keep b (List.mem_append_right _ hb))
  have f4 : Frm ⟨G, H, p :: (F' ++ Fb)⟩ G (upd H p (.lst vs')) (p :: F3) := f3.sub (List.nodup_cons.mpr ⟨fun z => (List.nodup_cons.mp nd).1 (k1 p z), k2 (List.nodup_cons.mp nd).2⟩) fun b hb => by
    rcases List.mem_cons.mp hb with z | z
    · exact z ▸ List.mem_cons_self
    · exact List.mem_cons_of_mem _ (k1 b z)
  obtain ⟨f5, st5⟩ := f.step perm f4
  have c3 : Cs G (upd H p (.lst vs')) (T ++ ρ.set i none) (t ++ σ) F2 := c2.mono (.refl _) f5.gh st5
  obtain ⟨F6, e8, c4⟩ := c3.back l (lt_of_get hi) e3 (A := pin (.ref p) (aL As')) (F1 := p :: F3) ⟨rfl, p, vs', F3, rfl, rfl, upd_same, k3⟩
  exact ⟨G, F6, f5.perm e8.symm, c4⟩
theorem ST.drop2 {E : Ent} {A B : OA} {L : Cl} {C : L2.St} {H : Hp} {y x : Option V} (st : ST E (some B :: some A :: L) (y :: x :: C) H) : ST E (some B :: L) (y :: C) H := by
  obtain ⟨G, F, f, w, F1, F2, e1, e2, q, u, F3, F4, e3, e4, q2, c⟩ := st
  subst e4 e2
  exact ⟨G, F1 ++ F4, f.less (List.Sublist.append_left (List.sublist_append_right _ _) F1), w, F1, F4, e1, rfl, q, c⟩
theorem Cs.ofNil {G H : Hp} {A : OA} {y : V} {F : List Addr} (h : A.P G H y F) : Cs G H [some A] [some y] F := ⟨y, F, [], rfl, by simp, h, rfl⟩
section
variable {X : Cx} {ρ ρ1 ρ2 ρ3 : Cl} {a b c e o : Expr} {pos p apos cpos : Pos} {A B : OA} {As As0 : List OA} {d : PyData} {ds : List PyData} {v0 : V}
theorem Cs.getP {G H : Hp} {A : OA} : ∀ {As : List OA} {vs : List V} {F : List Addr} {j : Nat}, Cs G H (As.map some) (vs.map some) F → As[j]? = some A → ∃ v F1 F2, vs[j]? = some v ∧ F.Perm (F1 ++ F2) ∧ A.P G H v F1 ∧ Cs G H ((As.map some).set j none) (vs.map some) F2 := fun {As vs F j} c h => by
  obtain ⟨v, F1, F2, e1, e2, q, c2⟩ := c.split (i := j) (A := A) (by rw [List.getElem?_map, h]; rfl)
  rw [List.getElem?_map] at e1
  cases hv : vs[j]? with
  | none => rw [hv] at e1; cases e1
  | some w =>
    rw [hv] at e1
    cases e1
    exact ⟨v, F1, F2, rfl, e2, q, c2⟩
theorem cs_set {G H : Hp} {As : List OA} {vs : List V} {y : V} {j : Nat} {F1 F2 : List Addr} (hj : j < As.length) (c : Cs G H (As.map some) (vs.map some) F1) (q : B.P G H y F2) : ∃ F3, (∀ b ∈ F3, b ∈ F1 ++ F2) ∧ ((F1 ++ F2).Nodup → F3.Nodup) ∧ Cs G H ((As.set j B).map some) ((vs.set j y).map some) F3 := by
  obtain ⟨F3, s, c1⟩ := c.forget (i := j) (x := none)
  obtain ⟨F4, p, c2⟩ := c1.join (by simpa using hj) q
  rw [set_set] at c2
  refine ⟨F4, fun b hb => ?_, fun n => ?_, by simpa [List.map_set] using c2⟩
  · rcases List.mem_append.mp (p.mem_iff.mp hb) with z | z
    · exact List.mem_append_right _ z
    · exact List.mem_append_left _ (s.subset z)
  · refine (p.nodup_iff).mpr ((List.perm_append_comm.nodup_iff).mp (n.sublist (List.Sublist.append_right s F2)))
def Rty (K : PySem.W.Frag) (ρ : Cl) (A : OA) (ty : String) : Prop := ∀ {G H : Hp} {T : Cl} {t σ : L2.St} {F Fv : List Addr} {v : V}, T.length = t.length → Cs G H (T ++ ρ) (t ++ σ) F → Ex G H → A.P G H v Fv → TyX K H v (.type ty)
def tyN : PyData → String
  | .none => "NoneType"
  | .bool _ => "bool"
  | .int _ => "int"
  | .str _ => "str"
  | .list _ => "list"
  | .tuple _ => "tuple"
  | .dict _ => "dict"
theorem sqt_ty {K : PySem.W.Frag} {H : Hp} {a : Addr} {xs : List V} (h : SqT K H a xs) : TyX K H (.ref a) (.type "tuple") := by
  rcases h with (h | ⟨o, h⟩) | ⟨o, its, n, h1, h2, h3, _, _⟩
  · exact .base (.tup h)
  · exact .fTuple h
  · exact .kTuple h1 h2
theorem Dq.ty {K : PySem.W.Frag} {G : Hp} {v : V} (h : Dq K G v d) : TyX K G v (.type (tyN d)) := by
  cases h with
  | non => exact .base .non
  | bl b => exact .base (.bl b)
  | int i => exact .base (.int i)
  | str x => exact .base (.str x)
  | lst h1 h2 => exact .base (.lst h1)
  | tup h1 h2 => exact sqt_ty h1
theorem rty_data : Rty X.K ρ (aD X.K d) (tyN d) := fun l c e p => (Dq.mono e _ _ p.1).ty
theorem xe_ty {x ty : String} (hm : X.mg x = none) (hv : bootBuiltins x = some (.type ty)) (hg : Gl X x := by rfl) (hn : (x : Str) ≠ "__name__" := by decide) (hd : ((x : Str) == ("__debug__" : Str)) = false := by decide) : XE X (.Name x pos) ρ ρ (aV (.ty ty)) := fun E T t σ H l st Q k => by
  obtain ⟨G, F, f, cs⟩ := st
  exact wE.of (pe_bltn (v := .ty ty) hg hm hv rfl hn hd) (k (.ty ty) H ⟨G, F, f, .ty ty, [], F, rfl, rfl, ⟨rfl, rfl⟩, cs⟩)
theorem xe_isi {T U : String} {k : Bool} (ha : XE X a ρ ρ1 A) (hb : XE X b ρ1 ρ1 (aV (.ty U))) (r : Rty X.K ρ1 A T) (hk : kitB T U = some k) (hm : X.mg "isinstance" = none) (hg : Gl X "isinstance" := by rfl) (hs : starEach [a, b] X.env = (false, eval a X.env) :: starEach [b] X.env := by rfl) (hs2 : starEach [b] X.env = [(false, eval b X.env)] := by rfl) (hpl : (backTo pos (starEach [b] X.env)).any (·.1) = false := by rfl) :
    XE X (.Call (.Name "isinstance" p) [a, b] [] pos) ρ ρ1 (aD X.K (.bool k)) :=
  xe_callB call_isi (xa_cons ha (xa_cons hb xa_nil hs2) hs) (fun E T t σ vs H Q l hl st kk => by
    obtain ⟨v, w, rfl⟩ := vs2 hl
    obtain ⟨G, F, f, c⟩ := st
    obtain ⟨v', F1, F2, e1, e2, q1, w', F3, F4, e3, e4, ⟨q2, _⟩, c⟩ := c
    cases e1
    cases e3
    subst q2 e2 e4
    exact ⟨v, _, _, _, k, rfl, .ty U, r l c f.gh q1, kit_ty hk, kk _ H (ST.put (f.less ((List.sublist_append_right _ _).trans (List.sublist_append_right _ _))) c (.bl _))⟩) hm (by decide +kernel) hg (by decide) (by decide) hs hpl
end
end Mr

namespace Mr
open PySem PySem.Spec PyProof.Rows L2
section
variable {α β δ : Type}
def compG (tb : β → α → Option Bool) (fe : β → α → Option (δ × β)) : List α → β → List δ → Option (List δ × β)
  | [], s, acc => some (acc, s)
  | x :: xs, s, acc => (tb s x).bind fun b => if b = true then (fe s x).bind fun o => compG tb fe xs o.2 (acc ++ [o.1]) else compG tb fe xs s acc
def mapL (f : α → Option δ) : List α → Option (List δ)
  | [] => some []
  | x :: xs => (f x).bind fun y => (mapL f xs).bind fun ys => some (y :: ys)
def mapO (f : α → Option δ) (xs : List α) : Option (List δ) := if xs.length ≤ 1000000 then mapL f xs else none
theorem compG_map {f : α → Option δ} : ∀ {xs : List α} {ys acc : List δ}, mapL f xs = some ys → compG (fun (_ : Unit) _ => some true) (fun _ x => (f x).map fun y => (y, ())) xs () acc = some (acc ++ ys, ())
  | [], ys, acc, h => by
    cases h
    simp [compG]
  | x :: xs, ys, acc, h => by
    unfold mapL at h
    cases h1 : f x with
    | none => rw [h1] at h; cases h
    | some y =>
      rw [h1] at h
      cases h2 : mapL f xs with
      | none => rw [h2] at h; cases h
      | some zs =>
        rw [h2] at h
        cases h
        have q := compG_map (acc := acc ++ [y]) h2
        unfold compG
        rw [h1]
        show compG _ _ xs () (acc ++ [y]) = _
        rw [q, List.append_assoc]
        rfl
end
theorem Cs.free {G H : Hp} {x : Option V} : ∀ {ρ : Cl} {σ : L2.St} {F : List Addr} {i : Nat}, Cs G H ρ (σ.set i x) F → ρ[i]? = some none → Cs G H ρ σ F
  | [], σ, F, i, c, h => by simp at h
  | none :: ρ, [], F, i, c, h => by cases i <;> exact c.elim
  | some A :: ρ, [], F, i, c, h => by cases i <;> exact c.elim
  | none :: ρ, y :: σ, F, 0, c, h => c
  | some A :: ρ, y :: σ, F, 0, c, h => by simp at h
  | none :: ρ, y :: σ, F, i + 1, c, h => Cs.free (ρ := ρ) (σ := σ) (i := i) c (by simpa using h)
  | some A :: ρ, y :: σ, F, i + 1, c, h => by
    obtain ⟨v, F1, F2, e1, e2, a, c⟩ := c
    exact ⟨v, F1, F2, e1, e2, a, c.free (by simpa using h)⟩
theorem Cs.freeT {G H : Hp} {x : Option V} {T ρ : Cl} {t σ : L2.St} {F : List Addr} {i : Nat} (l : T.length = t.length) (c : Cs G H (T ++ ρ) (t ++ σ.set i x) F) (h : ρ[i]? = some none) : Cs G H (T ++ ρ) (t ++ σ) F := by
  rw [← append_set_right, ← l] at c
  exact c.free (by rw [append_get_right]; exact h)
theorem Cs.forgetT {G H : Hp} {x : Option V} {T ρ : Cl} {t σ : L2.St} {F : List Addr} {i : Nat} (l : T.length = t.length) (c : Cs G H (T ++ ρ) (t ++ σ) F) : ∃ F', F'.Sublist F ∧ Cs G H (T ++ ρ.set i none) (t ++ σ.set i x) F' := by
  obtain ⟨F', s, q⟩ := c.forget (i := T.length + i) (x := x)
  rw [append_set_right, l, append_set_right] at q
  exact ⟨F', s, q⟩
theorem ST.wkT {E : Ent} {T ρ ρ' : Cl} {t σ : L2.St} {H : Hp} (l : T.length = t.length) (h : ST E (T ++ ρ) (t ++ σ) H) (w : Wk ρ ρ') : ST E (T ++ ρ') (t ++ σ) H := by
  obtain ⟨G, F, f, c⟩ := h
  obtain ⟨F1, F2, e, c1, c2⟩ := c.unappend l
  obtain ⟨F3, s, c3⟩ := c2.wk w
  subst e
  exact ⟨G, F1 ++ F3, f.less (List.Sublist.append_left s F1), c1.append c3⟩
def XEm (X : Cx) {ω : Type} (e : Expr) (ρ : Cl) (m : Option ω) (N : ω → Cl) (B : ω → OA) : Prop := ∀ o, m = some o → XE X e ρ (N o) (B o)
def XTm (X : Cx) (e : Expr) (ρ : Cl) (m : Option Bool) : Prop := ∀ k, m = some k → XT X e ρ ρ k
section
variable {X : Cx} {ρ ρ1 : Cl} {e tg iter elt c : Expr} {pos p : Pos} {ω α β δ : Type} {N : ω → Cl} {B : ω → OA}
theorem xem_bind {κ : Type} {m1 : Option κ} {k : κ → Option ω} (h : ∀ x, m1 = some x → XEm X e ρ (k x) N B) : XEm X e ρ (m1.bind k) N B := fun o ho => by
  cases hm : m1 with
  | none => rw [hm] at ho; cases ho
  | some x => rw [hm] at ho; exact h x hm o ho
theorem xem_some {o : ω} (h : XE X e ρ (N o) (B o)) : XEm X e ρ (some o) N B := fun _ ho => by cases ho; exact h
theorem xtm_bind {κ : Type} {m1 : Option κ} {k : κ → Option Bool} (h : ∀ x, m1 = some x → XTm X e ρ (k x)) : XTm X e ρ (m1.bind k) := fun o ho => by
  cases hm : m1 with
  | none => rw [hm] at ho; cases ho
  | some x => rw [hm] at ho; exact h x hm o ho
theorem xtm_some {k : Bool} (h : XT X e ρ ρ k) : XTm X e ρ (some k) := fun _ ho => by cases ho; exact h
theorem Wk.refl : ∀ ρ : Cl, Wk ρ ρ
  | [] => trivial
  | none :: l => Wk.refl l
  | some _ :: l => ⟨rfl, Wk.refl l⟩
abbrev blkX (X : Cx) (scope : Scope) (s0 : Shared) (H0 : Hp) (C : Addr) (cl : List (Str × Addr)) (fp : List Addr) : Cx := X.blk s0 H0 scope (compEnvC scope cl C X.env) fp
theorem lc_core1 {Ok : Cl → Prop} {xs : List α} {cv : α → OA} {N : β → Cl} {tb : β → α → Option Bool} {fe : β → α → Option (δ × β)} {s0 : β} {el : δ → OA} {i : Nat} {E E' : Ent} {T : Cl} {t σ : L2.St} {H1 : Hp} {D : Addr} {J : It} {tt : TT} {te : TE} {Qd : Hp → Prop} {r : List δ × β}
    (l : T.length = t.length) (hr : compG tb fe xs s0 [] = some r) (hz : xs.length ≤ 1000000) (hD : H1 D = none) (st : ST E' (T ++ ρ1) (t ++ σ) H1) (gv : Gives J E' Ok xs cv) (hw : Wk (ρ1.set i none) (N s0)) (hok : ∀ s, Ok (N s)) (hN : ∀ s, (N s)[i]? = some none)
    (ht : ∀ x s k, tb s x = some k → ∀ (T : Cl) (t σ : L2.St) (H : Hp), T.length = t.length → ST E' (T ++ (N s).set i (some (cv x))) (t ++ σ) H → ∀ Q : Bool → Hp → Prop, (∀ H', ST E' (T ++ (N s).set i (some (cv x))) (t ++ σ) H' → Q k H') → tt σ H Q)
    (he : ∀ x s y s', fe s x = some (y, s') → ∃ ρ2, Wk (ρ2.set i none) (N s') ∧ ∀ (T : Cl) (t σ : L2.St) (H : Hp), T.length = t.length → ST E' (T ++ (N s).set i (some (cv x))) (t ++ σ) H → ∀ Q : VK, (∀ v H', ST E' (some (el y) :: (T ++ ρ2)) (some v :: (t ++ σ)) H' → Q v H') → te σ H Q)
    (hd : ∀ H', ST E' (some (pin (.ref D) (aL (r.1.map el))) :: (T ++ N r.2)) (some (.ref D) :: (t ++ σ.set i none)) H' → Qd H') :
    ∃ W : Nat → Nat → Hp → Prop, (∃ m, W 0 m (upd H1 D (.lst []))) ∧ ∀ n m H, W n m H →
      (J.stop n H ∧ Qd H) ∨ (J.go n H ∧ ∃ Nx : Hp → Prop, (∀ H', Nx H' → ∃ m', m' < m ∧ W (n + 1) m' H') ∧ ∀ x H', J.yld n H x H' → gName i x (wipe σ [i]) H' fun σ2 H2 => wipe σ2 [i] = wipe σ [i] ∧ tt σ2 H2 fun b H3 =>
        if b = true then te σ2 H3 fun y H4 => ∃ acc, H4 D = some (.lst acc) ∧ acc.length < sizeLine ∧ Nx (upd H4 D (.lst (acc ++ [y]))) else Nx H3) := by
  refine ⟨fun n m H => m = xs.length - n ∧ n ≤ xs.length ∧ ∃ s acc, acc.length ≤ n ∧ compG tb fe (xs.drop n) s acc = some r ∧ ST E' (some (pin (.ref D) (aL (acc.map el))) :: (T ++ N s)) (some (.ref D) :: (t ++ σ.set i none)) H, ⟨xs.length, by simp, Nat.zero_le _, s0, [], Nat.le_refl _, by simpa using hr, ?_⟩, ?_⟩
  · obtain ⟨G, F, f, c⟩ := st
    obtain ⟨f1, keep⟩ := f.step (Fa := []) (Fr := F) (by simp) (Frm.alloc (o := .lst []) f.gh hD)
    have c1 := c.mono (.refl _) f1.gh keep
    obtain ⟨F', s, c2⟩ := c1.forgetT (x := none) (i := i) l
    obtain ⟨F1, F2, e, c3, c4⟩ := c2.unappend l
    obtain ⟨F3, s3, c5⟩ := c4.wk hw
    subst e
    refine ⟨G, [D] ++ (F1 ++ F3), f1.less (List.Sublist.append_left ((List.Sublist.append_left s3 F1).trans s) [D]), .ref D, [D], F1 ++ F3, rfl, rfl, ⟨rfl, D, [], [], rfl, rfl, upd_same, rfl⟩, c3.append c5⟩
  · rintro n m H ⟨rfl, hn, s, acc, hacc, hf, st⟩
    have l' : (some (pin (V.ref D) (aL (acc.map el))) :: T).length = (some (V.ref D) :: t).length := by simp [l]
    by_cases hlt : n < xs.length
    · have ed : xs.drop n = xs[n] :: xs.drop (n + 1) := List.drop_eq_getElem_cons hlt
      rw [ed] at hf
      have hf : ((tb s xs[n]).bind fun b => if b = true then (fe s xs[n]).bind fun o => compG tb fe (xs.drop (n + 1)) o.2 (acc ++ [o.1]) else compG tb fe (xs.drop (n + 1)) s acc) = some r := hf
      refine .inr ⟨gv.go n hlt (_ :: T) (_ :: t) _ _ _ l' (hok s) st, fun H' => ∃ s' acc', acc'.length ≤ n + 1 ∧ compG tb fe (xs.drop (n + 1)) s' acc' = some r ∧ ST E' (some (pin (.ref D) (aL (acc'.map el))) :: (T ++ N s')) (some (.ref D) :: (t ++ σ.set i none)) H',
        fun H' ⟨s', acc', q0, q1, q2⟩ => ⟨xs.length - (n + 1), by omega, rfl, hlt, s', acc', q0, q1, q2⟩, fun v H' y => ?_⟩
      have st1 := gv.yld n xs[n] v H H' (List.getElem?_eq_getElem hlt) (_ :: T) (_ :: t) _ _ l' (hok s) st y
      have st2 := ST.assignT (i := i) l' st1 (lt_of_get (hN s))
      show wipe ((wipe σ [i]).set i (some v)) [i] = wipe σ [i] ∧ _
      have ew : wipe σ [i] = σ.set i none := rfl
      refine ⟨by rw [ew]; show ((σ.set i none).set i (some v)).set i none = σ.set i none; rw [set_set, set_set], ?_⟩
      rw [ew]
      cases hb : tb s xs[n] with
      | none => rw [hb] at hf; cases hf
      | some b =>
        rw [hb] at hf
        refine ht xs[n] s b hb (_ :: T) (_ :: t) _ H' l' st2 _ fun H2 st3 => ?_
        have back : ∀ {s' : β} {acc' : List δ} {ρ2 : Cl} {H' : Hp}, Wk (ρ2.set i none) (N s') → ST E' (some (pin (.ref D) (aL (acc'.map el))) :: (T ++ ρ2)) (some (.ref D) :: (t ++ (σ.set i none).set i (some v))) H' → ST E' (some (pin (.ref D) (aL (acc'.map el))) :: (T ++ N s')) (some (.ref D) :: (t ++ σ.set i none)) H' := fun {s' acc' ρ2 H'} hw st => by
          obtain ⟨G, F, f, c⟩ := st
          obtain ⟨F', s, c2⟩ := Cs.forgetT (T := some (pin (.ref D) (aL (acc'.map el))) :: T) (t := some (.ref D) :: t) (x := none) (i := i) (by simp [l]) c
          rw [set_set, set_set] at c2
          exact ST.wkT (T := some (pin (.ref D) (aL (acc'.map el))) :: T) (t := some (.ref D) :: t) (by simp [l]) ⟨G, F', f.less s, c2⟩ hw
        cases b with
        | false =>
          have hf : compG tb fe (xs.drop (n + 1)) s acc = some r := hf
          refine ⟨s, acc, by omega, hf, ?_⟩
          exact back (by rw [set_set, set_get (hN s)]; exact Wk.refl _) st3
        | true =>
          have hf : ((fe s xs[n]).bind fun o => compG tb fe (xs.drop (n + 1)) o.2 (acc ++ [o.1])) = some r := hf
          cases hfe : fe s xs[n] with
          | none => rw [hfe] at hf; cases hf
          | some o =>
            obtain ⟨y, s'⟩ := o
            rw [hfe] at hf
            have hf : compG tb fe (xs.drop (n + 1)) s' (acc ++ [y]) = some r := hf
            obtain ⟨ρ2, hwk, hel⟩ := he xs[n] s y s' hfe
            refine hel (_ :: T) (_ :: t) _ H2 l' st3 _ fun yv H3 st4 => ?_
            obtain ⟨p, vs, e1, h2, hl, go⟩ := ST.modL (T := []) (t := []) (i := 0) rfl st4 rfl
            cases e1
            have hsz : vs.length < sizeLine := by
              rw [hl, List.length_map]
              exact Nat.lt_of_le_of_lt hacc (Nat.lt_of_lt_of_le hlt (Nat.le_trans hz (by decide)))
            refine ⟨vs, h2, hsz, s', acc ++ [y], by simp; omega, hf, back hwk ?_⟩
            have st5 := go ((acc ++ [y]).map el) (vs ++ [yv]) fun G H F1 F2 c q => ⟨F1 ++ F2, fun b hb => hb, fun n => n, by simpa using c.append (Cs.ofNil q)⟩
            exact st5
    · have e : n = xs.length := by omega
      subst e
      rw [List.drop_length] at hf
      cases hf
      exact .inl ⟨gv.stop (_ :: T) (_ :: t) _ _ _ l' (hok s) st, hd H st⟩
theorem lc_fin {E E' : Ent} {T ρ2 : Cl} {t σ : L2.St} {H : Hp} {D : Addr} {A : OA} {i : Nat} (l : T.length = t.length) (lt : Later E' E) (hi : ρ2[i]? = some none) (st : ST E' (some (pin (.ref D) A) :: (T ++ ρ2)) (some (.ref D) :: (t ++ σ.set i none)) H) : ST E (some A :: (T ++ ρ2)) (some (.ref D) :: (t ++ σ)) H := by
  refine lt _ _ _ ?_
  obtain ⟨G, F, f, v, F1, F2, e1, e2, ⟨_, a⟩, c⟩ := st
  cases e1
  exact ⟨G, F, f, _, F1, F2, rfl, e2, a, c.freeT l hi⟩
theorem mapO_eq {f : α → Option δ} {xs : List α} {ys : List δ} (h : mapO f xs = some ys) : xs.length ≤ 1000000 ∧ mapL f xs = some ys := by
  unfold mapO at h
  split at h
  · exact ⟨by assumption, h⟩
  · cases h
def wEc (X : Cx) (scope : Scope) (e : Expr) : TE := fun σ H Q => ∀ s0 H0 C cl fp, wE (blkX X scope s0 H0 C cl fp) e σ H Q
variable {scope : Scope} {x : Str}
def XC (X : Cx) (x : Str) (p : Pos) (i : Nat) (elt iter : Expr) (ifs : List Expr) (scope : Scope) (ρ ρ' : Cl) (A : OA) : Prop := ∃ (tt : TT) (te : TE), (∀ s0 H0 C cl fp, PTs (blkX X scope s0 H0 C cl fp) ifs tt) ∧ (∀ s0 H0 C cl fp, PE (blkX X scope s0 H0 C cl fp) elt te) ∧
  ∀ (E : Ent) (T : Cl) (t σ : L2.St) (H : Hp), T.length = t.length → ST E (T ++ ρ) (t ++ σ) H → ∀ Q : VK, (∀ v H', ST E (some A :: (T ++ ρ')) (some v :: (t ++ σ)) H' → Q v H') → tLc (wI X (.Name x p) iter) (gName i) tt te [i] σ H Q
theorem xe_lc {i : Nat} {ρ' : Cl} {A : OA} {ifs : List Expr} (h : XC X x p i elt iter ifs scope ρ ρ' A) (hc : X.calm = true) (hN : X.N.Nodup) (ok : BlkOk X.N X.env.scope scope [(x, i)]) (hg : ∀ s0 H0 C cl fp, PG (blkX X scope s0 H0 C cl fp) (.Name x p) (gName i)) (hs : ∀ x, foldedSetIterable iter X.env x = pure x := by intro _; rfl) :
    XE X (.ListComp elt [⟨.Name x p, iter, ifs, 0⟩] scope pos) ρ ρ' A := fun E T t σ H l st Q k => by
  obtain ⟨tt, te, h1, h2, h3⟩ := h
  exact wE.of (pe_lc (own := [(x, i)]) (g := gName i) hc hN piS ok hg h1 h2 hs) (h3 E T t σ H l st Q k)
theorem xc_imp {i : Nat} {ρ' : Cl} {A B : OA} {ifs : List Expr} (h : XC X x p i elt iter ifs scope ρ ρ' A) (e : A = B) : XC X x p i elt iter ifs scope ρ ρ' B := e ▸ h
theorem xc_mapO (i : Nat) {Ok : Cl → Prop} {xs : List α} {cv : α → OA} {f : α → Option δ} {el : δ → OA} {ys : List δ} (hm : mapO f xs = some ys) (hx : XI X (.Name x p) iter ρ ρ1 Ok xs cv) (hok : Ok (ρ1.set i none)) (hl : i < ρ1.length)
    (he : ∀ s0 H0 C cl fp x, XEm (blkX X scope s0 H0 C cl fp) elt (ρ1.set i (some (cv x))) (f x) (fun _ => ρ1.set i (some (cv x))) el) :
    XC X x p i elt iter [] scope ρ (ρ1.set i none) (aL (ys.map el)) := by
  refine ⟨tYes, wEc X scope elt, fun _ _ _ _ _ => pts_nil, fun s0 H0 C cl fp => ⟨fun pins s σ H Q I h => h s0 H0 C cl fp pins s I⟩, fun E T t σ H l st Q k => ?_⟩
  obtain ⟨hz, hm1⟩ := mapO_eq hm
  have hfree : (ρ1.set i none)[i]? = some none := List.getElem?_set_self hl
  refine hx E T t σ H l st _ fun J E' H' lt st' gv => ?_
  intro D hD
  exact lc_core1 (te := wEc X scope elt) (tt := tYes) (ρ1 := ρ1) (N := fun _ : Unit => ρ1.set i none) (el := el) (i := i) (E := E) l (compG_map hm1) hz hD st' gv (Wk.refl _) (fun _ => hok) (fun _ => hfree)
    (fun x s k hk T t σ H l st Q q => by cases hk; exact q H st)
    (fun x s y s' hf => by
      cases hfx : f x with
      | none => rw [hfx] at hf; cases hf
      | some y0 =>
        rw [hfx] at hf
        cases hf
        refine ⟨(ρ1.set i none).set i (some (cv x)), by rw [set_set, set_set]; exact Wk.refl _, fun T t σ H l st Q q s0 H0 C cl fp => ?_⟩
        rw [set_set] at st q
        exact he s0 H0 C cl fp x y hfx E' T t σ H l st Q q)
    fun H2 st2 => k _ _ (lc_fin l lt hfree st2)
end
end Mr

namespace Mr
open PySem PySem.Spec PyProof.Rows L2
class Cd (α : Type) where
  d : α → PyData
  dep : Nat
  can : ∀ x, (d x).canLay0 = true
  hdep : ∀ x, (d x).depth ≤ dep
class Ce (α : Type) [Cd α] [DecidableEq α] where
  eqv : ∀ x y : α, PyData.eqv (Cd.d x) (Cd.d y) = decide (x = y)
class Cn (α : Type) [Cd α] where
  nn : ∀ x : α, isN (Cd.d x) = false
theorem Cd.shp {α : Type} [Cd α] (x : α) (h : Cd.dep α ≤ 64 := by decide) : SeqAt.shaped (Cd.d x) = true := by
  unfold SeqAt.shaped
  rw [Cd.can x, decide_eq_true (Nat.le_trans (Cd.hdep x) h)]
  rfl
structure T3 (α β γ : Type) where
  a : α
  b : β
  c : γ
  deriving DecidableEq
structure T4 (α β γ δ : Type) where
  a : α
  b : β
  c : γ
  d : δ
  deriving DecidableEq
abbrev Wd := { x : Str // PyData.strOk x = true }
instance : Cd Int := ⟨.int, 0, fun _ => by simp [PyData.canLay0], fun _ => by simp [PyData.depth]⟩
instance : Cd Bool := ⟨.bool, 0, fun _ => by simp [PyData.canLay0], fun _ => by simp [PyData.depth]⟩
instance : Cd Wd := ⟨fun x => .str x.1, 0, fun x => by simp [PyData.canLay0, x.2], fun _ => by simp [PyData.depth]⟩
instance : Cd Unit := ⟨fun _ => .none, 0, fun _ => by simp [PyData.canLay0], fun _ => by simp [PyData.depth]⟩
theorem can_all {α : Type} [Cd α] : ∀ xs : List α, PyData.canLayAll0 (xs.map Cd.d) = true
  | [] => by simp [PyData.canLayAll0]
  | x :: xs => by simp [PyData.canLayAll0, Cd.can x, can_all xs]
theorem dep_all {α : Type} [Cd α] : ∀ xs : List α, PyData.depthAll (xs.map Cd.d) ≤ Cd.dep α
  | [] => by simp [PyData.depthAll]
  | x :: xs => by
    have h1 := Cd.hdep x
    have h2 := dep_all xs
    simp only [List.map_cons, PyData.depthAll]
    omega
instance {α : Type} [Cd α] : Cd (List α) := ⟨fun xs => .list (xs.map Cd.d), Cd.dep α + 1, fun xs => by simp [PyData.canLay0, can_all], fun xs => by
  have := dep_all xs
  simp only [PyData.depth]
  omega⟩
instance {α : Type} [Cd α] : Cd (Option α) := ⟨fun o => match o with | none => .none | some x => Cd.d x, Cd.dep α, fun o => by cases o; simp [PyData.canLay0]; exact Cd.can _, fun o => by cases o; simp [PyData.depth]; exact Cd.hdep _⟩
instance {α β : Type} [Cd α] [Cd β] : Cd (α × β) := ⟨fun p => .tuple [Cd.d p.1, Cd.d p.2], max (Cd.dep α) (Cd.dep β) + 1, fun p => by simp [PyData.canLay0, PyData.canLayAll0, Cd.can], fun p => by
  have h1 := Cd.hdep p.1
  have h2 := Cd.hdep p.2
  simp only [PyData.depth, PyData.depthAll]
  omega⟩
instance {α β γ : Type} [Cd α] [Cd β] [Cd γ] : Cd (T3 α β γ) := ⟨fun p => .tuple [Cd.d p.a, Cd.d p.b, Cd.d p.c], max (Cd.dep α) (max (Cd.dep β) (Cd.dep γ)) + 1, fun p => by simp [PyData.canLay0, PyData.canLayAll0, Cd.can], fun p => by
  have h1 := Cd.hdep p.a
  have h2 := Cd.hdep p.b
  have h3 := Cd.hdep p.c
  simp only [PyData.depth, PyData.depthAll]
  omega⟩
instance {α β γ δ : Type} [Cd α] [Cd β] [Cd γ] [Cd δ] : Cd (T4 α β γ δ) := ⟨fun p => .tuple [Cd.d p.a, Cd.d p.b, Cd.d p.c, Cd.d p.d], max (Cd.dep α) (max (Cd.dep β) (max (Cd.dep γ) (Cd.dep δ))) + 1, fun p => by simp [PyData.canLay0, PyData.canLayAll0, Cd.can], fun p => by
  have h1 := Cd.hdep p.a
  have h2 := Cd.hdep p.b
  have h3 := Cd.hdep p.c
  have h4 := Cd.hdep p.d
  simp only [PyData.depth, PyData.depthAll]
  omega⟩
instance : Cn Int := ⟨fun _ => rfl⟩
instance : Cn Bool := ⟨fun _ => rfl⟩
instance : Cn Wd := ⟨fun _ => rfl⟩
instance {α : Type} [Cd α] : Cn (List α) := ⟨fun _ => rfl⟩
instance {α β : Type} [Cd α] [Cd β] : Cn (α × β) := ⟨fun _ => rfl⟩
instance {α β γ : Type} [Cd α] [Cd β] [Cd γ] : Cn (T3 α β γ) := ⟨fun _ => rfl⟩
instance {α β γ δ : Type} [Cd α] [Cd β] [Cd γ] [Cd δ] : Cn (T4 α β γ δ) := ⟨fun _ => rfl⟩
instance : Ce Int := ⟨fun x y => by show (x == y) = _; rw [Bool.beq_eq_decide_eq]⟩
instance : Ce Bool := ⟨fun x y => by show (x == y) = _; rw [Bool.beq_eq_decide_eq]⟩
instance : Ce Unit := ⟨fun x y => by cases x; cases y; rfl⟩
theorem eqv_all {α : Type} [Cd α] [DecidableEq α] [Ce α] : ∀ xs ys : List α, PyData.eqvAll (xs.map Cd.d) (ys.map Cd.d) = decide (xs = ys)
  | [], [] => by simp [PyData.eqvAll]
  | [], _ :: _ => by simp [PyData.eqvAll]
  | _ :: _, [] => by simp [PyData.eqvAll]
  | x :: xs, y :: ys => by
    simp only [List.map_cons, PyData.eqvAll, Ce.eqv, eqv_all xs ys, List.cons.injEq, Bool.decide_and]
instance {α : Type} [Cd α] [DecidableEq α] [Ce α] : Ce (List α) := ⟨fun xs ys => by
  show PyData.eqv (.list _) (.list _) = _
  rw [PyData.eqv]
  exact eqv_all xs ys⟩
theorem eqv_non_l {d : PyData} (h : isN d = false) : PyData.eqv .none d = false := by
  cases d <;> first | rfl | (cases h) | simp [PyData.eqv]
theorem eqv_non_r {d : PyData} (h : isN d = false) : PyData.eqv d .none = false := by
  cases d <;> first | rfl | (cases h) | simp [PyData.eqv]
instance {α : Type} [Cd α] [DecidableEq α] [Ce α] [Cn α] : Ce (Option α) := ⟨fun x y => by
  cases x with
  | none =>
    cases y with
    | none => simp [Cd.d, PyData.eqv]
    | some y => 
      show PyData.eqv .none (Cd.d y) = _
      rw [eqv_non_l (Cn.nn y)]
      simp
  | some x =>
    cases y with
    | none =>
      show PyData.eqv (Cd.d x) .none = _
      rw [eqv_non_r (Cn.nn x)]
      simp
    | some y =>
      show PyData.eqv (Cd.d x) (Cd.d y) = _
      rw [Ce.eqv]
      simp⟩
instance {α β : Type} [Cd α] [Cd β] [DecidableEq α] [DecidableEq β] [Ce α] [Ce β] : Ce (α × β) := ⟨fun x y => by
  show PyData.eqv (.tuple _) (.tuple _) = _
  obtain ⟨x1, x2⟩ := x
  obtain ⟨y1, y2⟩ := y
  simp [PyData.eqv, PyData.eqvAll, Ce.eqv, Prod.mk.injEq]⟩
instance {α β γ : Type} [Cd α] [Cd β] [Cd γ] [DecidableEq α] [DecidableEq β] [DecidableEq γ] [Ce α] [Ce β] [Ce γ] : Ce (T3 α β γ) := ⟨fun x y => by
  show PyData.eqv (.tuple _) (.tuple _) = _
  obtain ⟨x1, x2, x3⟩ := x
  obtain ⟨y1, y2, y3⟩ := y
  simp [PyData.eqv, PyData.eqvAll, Ce.eqv, T3.mk.injEq]⟩
instance {α β γ δ : Type} [Cd α] [Cd β] [Cd γ] [Cd δ] [DecidableEq α] [DecidableEq β] [DecidableEq γ] [DecidableEq δ] [Ce α] [Ce β] [Ce γ] [Ce δ] : Ce (T4 α β γ δ) := ⟨fun x y => by
  show PyData.eqv (.tuple _) (.tuple _) = _
  obtain ⟨x1, x2, x3, x4⟩ := x
  obtain ⟨y1, y2, y3, y4⟩ := y
  simp [PyData.eqv, PyData.eqvAll, Ce.eqv, T4.mk.injEq]⟩
instance : Ce Wd := ⟨fun x y => by
  show PyData.eqv (.str x.1) (.str y.1) = _
  simp only [PyData.eqv]
  rw [Bool.eq_iff_iff]
  simp [Subtype.ext_iff]⟩
section
variable {X : Cx} {ρ ρ1 ρ2 ρ3 : Cl} {a b c e : Expr} {pos : Pos} {A B : OA} {α : Type} [Cd α]
theorem atI_map {α β : Type} {f : α → β} {xs : List α} {i : Int} {x : α} (h : atI xs i = some x) : atI (xs.map f) i = some (f x) := by
  unfold atI at h ⊢
  rw [List.length_map]
  cases hk : ixN xs.length i with
  | none => rw [hk] at h; cases h
  | some j =>
    rw [hk] at h
    show (xs.map f)[j]? = _
    have h : xs[j]? = some x := h
    rw [List.getElem?_map, h]
    rfl
theorem xc_ix {xs : List α} {i : Int} {x : α} (ha : XE X a ρ ρ1 A) (hb : XE X b ρ1 ρ2 (aD X.K (.int i))) (r : Rls X.K ρ2 A (xs.map Cd.d)) (h : atI xs i = some x) (hs : PlainIx b := by exact fun _ _ => rfl) : XE X (.Subscript a b pos) ρ ρ2 (aD X.K (Cd.d x)) := xe_ix ha hb r (atI_map h) hs
theorem xkc_eq [DecidableEq α] [Ce α] {x y : α} (hu : X.A.units + 64 < cLine) (ha : XE X a ρ ρ1 A) (hb : XE X b ρ1 ρ2 B) (ra : Rda X.K ρ2 A (Cd.d x)) (rb : Rda X.K ρ2 B (Cd.d y)) (hd : Cd.dep α ≤ 64 := by decide) : XKm X (.Compare a [.Eq] [b] pos) ρ ρ2 (decide (x = y)) := xk_eq hu ha hb ra rb (Cd.shp x hd) (Cd.shp y hd) (Ce.eqv x y)
theorem xkc_ne [DecidableEq α] [Ce α] {x y : α} (hu : X.A.units + 64 < cLine) (ha : XE X a ρ ρ1 A) (hb : XE X b ρ1 ρ2 B) (ra : Rda X.K ρ2 A (Cd.d x)) (rb : Rda X.K ρ2 B (Cd.d y)) (hd : Cd.dep α ≤ 64 := by decide) : XKm X (.Compare a [.NotEq] [b] pos) ρ ρ2 (!decide (x = y)) := xk_ne hu ha hb ra rb (Cd.shp x hd) (Cd.shp y hd) (Ce.eqv x y)
theorem aLD_map {K : PySem.W.Frag} {δ : Type} (cv : δ → PyData) (ys : List δ) : aL (ys.map fun y => aD K (cv y)) = aLD K (ys.map cv) := by
  unfold aLD
  rw [List.map_map]
  rfl
theorem isN_opt [Cn α] (o : Option α) : isN (Cd.d o) = o.isNone := by
  cases o with
  | none => rfl
  | some x => exact Cn.nn x
end
theorem wk_0 : Wk [] [] := trivial
theorem wk_n {a : Option OA} {l l' : Cl} (h : Wk l l') : Wk (a :: l) (none :: l') := by
  cases a <;> exact h
theorem wk_k {a : OA} {l l' : Cl} (h : Wk l l') : Wk (some a :: l) (some a :: l') := ⟨rfl, h⟩
def divM (i j : Int) : Option Int := if DivOk j then some (i / j) else none
def modM (i j : Int) : Option Int := if 0 < j then some (i % j) else none
def guardO (p : Prop) [Decidable p] : Option Unit := if p then some () else none
theorem divM_eq {i j k : Int} (h : divM i j = some k) : DivOk j ∧ i / j = k := by
  unfold divM at h
  split at h
  · cases h; exact ⟨by assumption, rfl⟩
  · cases h
theorem modM_eq {i j k : Int} (h : modM i j = some k) : 0 < j ∧ i % j = k := by
  unfold modM at h
  split at h
  · cases h; exact ⟨by assumption, rfl⟩
  · cases h
theorem guardO_eq {p : Prop} [Decidable p] {u : Unit} (h : guardO p = some u) : p := by
  unfold guardO at h
  split at h
  · assumption
  · cases h
theorem xe_isI {X : Cx} {a : Expr} {ρ ρ1 : Cl} {i j : Int} (h : XE X a ρ ρ1 (aD X.K (.int i))) (e : i = j) : XE X a ρ ρ1 (aD X.K (.int j)) := e ▸ h
end Mr

namespace Mr
open PySem PySem.Spec PyProof.Rows L2
theorem sz_lt {n : Nat} (h : n < 1000000) : n < sizeLine := Nat.lt_of_lt_of_le h (by decide)
theorem dq_ints {K : PySem.W.Frag} {G : Hp} : ∀ ns : List Int, DqAll K G (ns.map V.int) (ns.map Cd.d)
  | [] => .nil
  | n :: ns => .cons (.int n) (dq_ints ns)
section
variable {X : Cx} {ρ ρ1 ρ2 ρ3 : Cl} {a b c e o : Expr} {pos p : Pos} {A B : OA} {α : Type} [Cd α]
theorem xe_lstD {xs : List α} {es : List Expr} (h : XA X es ρ ρ1 ((xs.map Cd.d).map (aD X.K))) (hz : xs.length ≤ 1000) : XE X (.List es pos) ρ ρ1 (aLD X.K (xs.map Cd.d)) := xe_lst h (by simpa using hz)
theorem xe_nv {v x : α} (h : XE X a ρ ρ1 (aD X.K (Cd.d v))) (e : v = x) : XE X a ρ ρ1 (aD X.K (Cd.d x)) := e ▸ h
theorem xe_unopt {o : Option α} {x : α} (h : XE X a ρ ρ1 (aD X.K (Cd.d o))) (e : o = some x) : XE X a ρ ρ1 (aD X.K (Cd.d x)) := by
  subst e
  exact h
theorem xc_len {xs : List α} (ha : XE X a ρ ρ1 A) (r : Rls X.K ρ1 A (xs.map Cd.d)) (hm : X.mg "len" = none) (hg : Gl X "len" := by rfl) (hs : starEach [a] X.env = [(false, eval a X.env)] := by rfl) (hpl : (backTo pos (starEach [] X.env)).any (·.1) = false := by rfl) : XE X (.Call (.Name "len" p) [a] [] pos) ρ ρ1 (aD X.K (.int ((xs.length : Nat) : Int))) := by
  have q := xe_len (p := p) (pos := pos) ha (Rls.sq r) hm hg hs hpl
  rwa [List.length_map] at q
def RepOk (n : Nat) (k : Int) : Prop := -(2 ^ 63) ≤ k ∧ k < 2 ^ 63 ∧ n * k.toNat ≤ 1000000
instance (n : Nat) (k : Int) : Decidable (RepOk n k) := by unfold RepOk; exact inferInstance
def orO (m n : Option Bool) : Option Bool := m.bind fun k => if k = true then some true else n
def XWm (X : Cx) (e : Expr) (ρ : Cl) (m : Option Bool) : Prop := ∀ k, m = some k → XW X e ρ ρ k
theorem xwm_and1 {m : Option Bool} (h : XTm X a ρ m) : XWm X (.BoolOp .And [a] pos) ρ m := fun k hk => xw_and1 (h k hk)
theorem xwm_or1 {m : Option Bool} (h : XTm X a ρ m) : XWm X (.BoolOp .Or [a] pos) ρ m := fun k hk => xw_or1 (h k hk)
theorem xwm_or {m n : Option Bool} {rest : List Expr} (h : XTm X a ρ m) (h2 : XWm X (.BoolOp .Or (b :: rest) pos) ρ n) : XWm X (.BoolOp .Or (a :: b :: rest) pos) ρ (orO m n) := fun k hk => by
  unfold orO at hk
  cases hm : m with
  | none => rw [hm] at hk; cases hk
  | some k1 =>
    rw [hm] at hk
    cases k1 with
    | false => exact xw_or (k2 := k) (h false hm) fun _ => h2 k hk
    | true => cases hk; exact xw_or (k2 := true) (h true hm) fun z => nomatch z
theorem xw_and' {k k2 : Bool} {rest : List Expr} (h : XT X a ρ ρ1 k) (h2 : k = true → XW X (.BoolOp .And (b :: rest) pos) ρ1 ρ1 k2) : XW X (.BoolOp .And (a :: b :: rest) pos) ρ ρ1 (k && k2) := fun E T t σ H l st Q kk => wW.of (pw_and ptS pwS) (h E T t σ H l st _ fun H1 st1 => by
  cases k with
  | true => exact h2 rfl E T t σ H1 l st1 Q kk
  | false => exact kk H1 st1)
theorem xw_or' {k k2 : Bool} {rest : List Expr} (h : XT X a ρ ρ1 k) (h2 : k = false → XW X (.BoolOp .Or (b :: rest) pos) ρ1 ρ1 k2) : XW X (.BoolOp .Or (a :: b :: rest) pos) ρ ρ1 (k || k2) := fun E T t σ H l st Q kk => wW.of (pw_or ptS pwS) (h E T t σ H l st _ fun H1 st1 => by
  cases k with
  | false => exact h2 rfl E T t σ H1 l st1 Q kk
  | true => exact kk H1 st1)
theorem xw_andM {k k2 : Bool} {n : Option Bool} {rest : List Expr} (h : XT X a ρ ρ1 k) (h2 : XWm X (.BoolOp .And (b :: rest) pos) ρ1 n) (hk : (if k = true then n else some false) = some k2) : XW X (.BoolOp .And (a :: b :: rest) pos) ρ ρ1 k2 := by
  cases k with
  | true => exact xw_and' h fun _ => h2 k2 hk
  | false => cases hk; exact xw_and' (k2 := false) h fun z => nomatch z
theorem xw_orM {k k2 : Bool} {n : Option Bool} {rest : List Expr} (h : XT X a ρ ρ1 k) (h2 : XWm X (.BoolOp .Or (b :: rest) pos) ρ1 n) (hk : (if k = true then some true else n) = some k2) : XW X (.BoolOp .Or (a :: b :: rest) pos) ρ ρ1 k2 := by
  cases k with
  | false => exact xw_or' h fun _ => h2 k2 hk
  | true => cases hk; exact xw_or' (k2 := true) h fun z => nomatch z
end
theorem law_sp {K : PySem.W.Frag} {H : Hp} {a : Addr} {ns : List Int} {n : Nat} {m : List Int → Option Bool} (hl : ns.length ≤ n) (hS : SqL K H a (ns.map V.int)) (ht : m ns = some true) {E : XK} :
    SpM (fun x : List Int => [aR K (List.map Cd.d x)]) m (fun _ _ => [none]) (fun _ (r : Bool) => aD K (Cd.d r)) [.ref a] H (fun v _ => v = .bl true) E := by
  refine ⟨ns, true, H, [], ht, ⟨.refl _, .refl _, by simp, fun b hb => by simp at hb, fun b hb => by simp at hb, fun _ _ q _ => q, fun b hb => by simp at hb, fun b o q n => by rw [show H b = none from n] at q; cases q⟩, ⟨.ref a, [], [], rfl, rfl, ⟨⟨a, _, rfl, hS, dq_ints ns⟩, rfl⟩, rfl⟩, rfl, fun v H' st => ?_⟩
  obtain ⟨G, F, f, c, q⟩ := ST.top (d := .bool true) st
  cases q
  rfl
end Mr

namespace Mr
open PySem PySem.Spec PyProof.Rows L2
section
variable {X : Cx} {ρ ρ1 ρ2 ρ3 : Cl} {a b c e o : Expr} {pos p apos cpos : Pos} {A B : OA} {As0 : List OA} {v0 : V} {α : Type} {cv : α → PyData} {xs : List α}
theorem xc_tuple {β : Type} [Cd β] {xs : List β} (ha : XE X a ρ ρ1 A) (r : Rls X.K ρ1 A (xs.map Cd.d)) (hm : X.mg "tuple" = none) (hg : Gl X "tuple" := by rfl) (hs : starEach [a] X.env = [(false, eval a X.env)] := by rfl) (hpl : (backTo pos (starEach [] X.env)).any (·.1) = false := by rfl) : XE X (.Call (.Name "tuple" p) [a] [] pos) ρ ρ1 (aD X.K (.tuple (xs.map Cd.d))) :=
  xe_callTy call_tuple_of (xa_cons ha xa_nil hs) (fun E T t σ vs H Q l hl st k => by
    obtain ⟨v, rfl⟩ := vs1 hl
    obtain ⟨G, F, Fv, f, cs, q⟩ := ST.one st
    obtain ⟨p, ys, e1, e2, e3⟩ := r l cs f.gh q
    exact ⟨p, ys, by rw [e1], .inl ⟨e2, fun l hl => k _ _ (ST.newT f cs hl e3)⟩⟩) hm (by decide +kernel) hg (by decide) (by decide) hs hpl
end
end Mr

namespace Mr
open PySem PySem.Spec PyProof.Rows L2
section
variable {X : Cx} {ω : Type} {sts : List Stmt} {m : Option ω} {Φ : ω → Ent → Ends → Prop}
theorem xg_st (ρ0 : Cl) {ρ : Cl} (e : ρ0 = ρ) (h : XG X sts ρ0 m Φ) : XG X sts ρ m Φ := e ▸ h
end
end Mr

namespace Mr
open PySem PySem.Spec PyProof.Rows L2
structure Own (ρ : Cl) (v0 : V) (A : OA) (w : OA → Cl) : Prop where
  get : ∀ {G H : Hp} {T : Cl} {t σ : L2.St} {F : List Addr}, T.length = t.length → Cs G H (T ++ ρ) (t ++ σ) F → ∃ F1 F2, F.Perm (F1 ++ F2) ∧ A.P G H v0 F1 ∧
    ∀ {G' H' : Hp} {F1' : List Addr} {B : OA}, Ex G G' → Ex G' H' → (∀ b ∈ F2, ∀ o, H b = some o → H' b = some o) → B.P G' H' v0 F1' → ∃ F', F'.Perm (F1' ++ F2) ∧ Cs G' H' (T ++ w B) (t ++ σ) F'
theorem Own.slot {ρ : Cl} {v0 : V} {A : OA} (i : Nat) (h : ρ[i]? = some (some (pin v0 A))) : Own ρ v0 A (fun B => ρ.set i (some (pin v0 B))) := ⟨fun {G H T t σ F} l c => by
  obtain ⟨v, F1, F2, e1, e2, ⟨e3, q⟩, c2⟩ := c.slot l h
  subst e3
  refine ⟨F1, F2, e2, q, fun {G' H' F1' B} e e' k p => ?_⟩
  obtain ⟨F', a, b⟩ := (c2.mono e e' k).back l (lt_of_get h) e1 (A := pin v B) ⟨rfl, p⟩
  exact ⟨F', a, b⟩⟩
def aObj (C : Addr) (ns : List Str) (As : List OA) : OA := ⟨fun G H v F => ∃ p dx vs F', v = .ref p ∧ F = p :: F' ∧ H p = some (.ins C dx (ns.zip vs)) ∧ vs.length = ns.length ∧ Cs G H (As.map some) (vs.map some) F', fun h e e' k => by
  obtain ⟨p, dx, vs, F', e1, e2, h1, hl, c⟩ := h
  subst e2
  exact ⟨p, dx, vs, F', e1, rfl, k p (by simp) _ h1, hl, c.mono e e' fun b hb => k b (List.mem_cons_of_mem _ hb)⟩⟩
theorem ST.modW {E : Ent} {T ρ : Cl} {t σ : L2.St} {H : Hp} {B : OA} {y v0 : V} {As : List OA} {w : OA → Cl} (l : T.length = t.length) (st : ST E (some B :: (T ++ ρ)) (some y :: (t ++ σ)) H) (O : Own ρ v0 (aL As) w) :
    ∃ p vs, v0 = .ref p ∧ H p = some (.lst vs) ∧ vs.length = As.length ∧ ∀ (As' : List OA) (vs' : List V),
      (∀ G H F1 F2, Cs G H (As.map some) (vs.map some) F1 → B.P G H y F2 → ∃ F3, (∀ b ∈ F3, b ∈ F1 ++ F2) ∧ ((F1 ++ F2).Nodup → F3.Nodup) ∧ Cs G H (As'.map some) (vs'.map some) F3) →
      ST E (T ++ w (aL As')) (t ++ σ) (upd H p (.lst vs')) := by
  obtain ⟨G, F, f, y', Fb, F0, e1, e2, hb, cs⟩ := st
  cases e1
  subst e2
  obtain ⟨F1, F2, e4, ⟨p, vs, F', e6, e7, h1, c1⟩, back⟩ := O.get l cs
  subst e6 e7
  refine ⟨p, vs, rfl, h1, by simpa using c1.len.symm, fun As' vs' k => ?_⟩
  have perm : (Fb ++ F0).Perm ((p :: (F' ++ Fb)) ++ F2) := by
    refine (List.Perm.append_left Fb e4).trans ?_
    have q : (Fb ++ (p :: F' ++ F2)).Perm ((p :: F' ++ F2) ++ Fb) := List.perm_append_comm
    refine q.trans ?_
    show (p :: (F' ++ F2 ++ Fb)).Perm (p :: ((F' ++ Fb) ++ F2))
    refine List.Perm.cons p ?_
    rw [List.append_assoc, List.append_assoc]
    exact List.Perm.append_left F' List.perm_append_comm
  have f1 := f.perm perm
  have f2 : Frm ⟨G, H, p :: (F' ++ Fb)⟩ G H (p :: (F' ++ Fb)) := (f1.less (List.sublist_append_left _ _)).start
  have f3 := Frm.write (o := .lst vs') f2
  have nd := f2.nd
  have np : ∀ b ∈ F' ++ Fb, b ≠ p := fun b hb z => by
    subst z
    exact (List.nodup_cons.mp nd).1 hb
  have keep : ∀ b ∈ F' ++ Fb, ∀ o, H b = some o → upd H p (.lst vs') b = some o := fun b hb o q => by rw [upd_ne (np b hb)]; exact q
  obtain ⟨F3, k1, k2, k3⟩ := k G (upd H p (.lst vs')) F' Fb (c1.mono (.refl _) f3.gh fun b hb => keep b (List.mem_append_left _ hb)) (B.mono hb (.refl _) f3.gh fun b hb => keep b (List.mem_append_right _ hb))
  have f4 : Frm ⟨G, H, p :: (F' ++ Fb)⟩ G (upd H p (.lst vs')) (p :: F3) := f3.sub (List.nodup_cons.mpr ⟨fun z => (List.nodup_cons.mp nd).1 (k1 p z), k2 (List.nodup_cons.mp nd).2⟩) fun b hb => by
    rcases List.mem_cons.mp hb with z | z
    · exact z ▸ List.mem_cons_self
    · exact List.mem_cons_of_mem _ (k1 b z)
  obtain ⟨f5, st5⟩ := f.step perm f4
  obtain ⟨F6, e8, c4⟩ := back (.refl _) f5.gh st5 (B := aL As') (F1' := p :: F3) ⟨p, vs', F3, rfl, rfl, upd_same, k3⟩
  exact ⟨G, F6, f5.perm e8.symm, c4⟩
theorem ST.modO {E : Ent} {T ρ : Cl} {t σ : L2.St} {H : Hp} {B : OA} {y v0 : V} {C : Addr} {ns : List Str} {As : List OA} {w : OA → Cl} (l : T.length = t.length) (st : ST E (some B :: (T ++ ρ)) (some y :: (t ++ σ)) H) (O : Own ρ v0 (aObj C ns As) w) :
    ∃ p dx vs, v0 = .ref p ∧ H p = some (.ins C dx (ns.zip vs)) ∧ vs.length = ns.length ∧ vs.length = As.length ∧ ∀ (ns' : List Str) (As' : List OA) (vs' : List V), vs'.length = ns'.length →
      (∀ G H F1 F2, Cs G H (As.map some) (vs.map some) F1 → B.P G H y F2 → ∃ F3, (∀ b ∈ F3, b ∈ F1 ++ F2) ∧ ((F1 ++ F2).Nodup → F3.Nodup) ∧ Cs G H (As'.map some) (vs'.map some) F3) →
      ST E (T ++ w (aObj C ns' As')) (t ++ σ) (upd H p (.ins C dx (ns'.zip vs'))) := by
  obtain ⟨G, F, f, y', Fb, F0, e1, e2, hb, cs⟩ := st
  cases e1
  subst e2
  obtain ⟨F1, F2, e4, ⟨p, dx, vs, F', e6, e7, h1, hl, c1⟩, back⟩ := O.get l cs
  subst e6 e7
  refine ⟨p, dx, vs, rfl, h1, hl, by simpa using c1.len.symm, fun ns' As' vs' hl' k => ?_⟩
  have perm : (Fb ++ F0).Perm ((p :: (F' ++ Fb)) ++ F2) := by
    refine (List.Perm.append_left Fb e4).trans ?_
    have q : (Fb ++ (p :: F' ++ F2)).Perm ((p :: F' ++ F2) ++ Fb) := List.perm_append_comm
    refine q.trans ?_
    show (p :: (F' ++ F2 ++ Fb)).Perm (p :: ((F' ++ Fb) ++ F2))
    refine List.Perm.cons p ?_
    rw [List.append_assoc, List.append_assoc]
    exact List.Perm.append_left F' List.perm_append_comm
  have f1 := f.perm perm
  have f2 : Frm ⟨G, H, p :: (F' ++ Fb)⟩ G H (p :: (F' ++ Fb)) := (f1.less (List.sublist_append_left _ _)).start
  have f3 := Frm.write (o := .ins C dx (ns'.zip vs')) f2
  have nd := f2.nd
  have np : ∀ b ∈ F' ++ Fb, b ≠ p := fun b hb z => by
    subst z
    exact (List.nodup_cons.mp nd).1 hb
  have keep : ∀ b ∈ F' ++ Fb, ∀ o, H b = some o → upd H p (.ins C dx (ns'.zip vs')) b = some o := fun b hb o q => by rw [upd_ne (np b hb)]; exact q
  obtain ⟨F3, k1, k2, k3⟩ := k G (upd H p (.ins C dx (ns'.zip vs'))) F' Fb (c1.mono (.refl _) f3.gh fun b hb => keep b (List.mem_append_left _ hb)) (B.mono hb (.refl _) f3.gh fun b hb => keep b (List.mem_append_right _ hb))
  have f4 : Frm ⟨G, H, p :: (F' ++ Fb)⟩ G (upd H p (.ins C dx (ns'.zip vs'))) (p :: F3) := f3.sub (List.nodup_cons.mpr ⟨fun z => (List.nodup_cons.mp nd).1 (k1 p z), k2 (List.nodup_cons.mp nd).2⟩) fun b hb => by
    rcases List.mem_cons.mp hb with z | z
    · exact z ▸ List.mem_cons_self
    · exact List.mem_cons_of_mem _ (k1 b z)
  obtain ⟨f5, st5⟩ := f.step perm f4
  obtain ⟨F6, e8, c4⟩ := back (.refl _) f5.gh st5 (B := aObj C ns' As') (F1' := p :: F3) ⟨p, dx, vs', F3, rfl, rfl, upd_same, hl', k3⟩
  exact ⟨G, F6, f5.perm e8.symm, c4⟩
theorem ST.isW {X : Cx} {E : Ent} {T ρ : Cl} {t σ : L2.St} {H : Hp} {v0 v : V} {As : List OA} {w : OA → Cl} (l : T.length = t.length) (st : ST E (some (aV v0) :: (T ++ ρ)) (some v :: (t ++ σ)) H) (O : Own ρ v0 (aL As) w) : v = v0 ∧ tyV X.K "list" v H := by
  obtain ⟨G, F, Fv, f, cs, e0, _⟩ := ST.one st
  obtain ⟨F1, F2, e4, ⟨p, vs, F', e6, e7, h1, c1⟩, _⟩ := O.get l cs
  subst e0 e6
  exact ⟨rfl, .inl ⟨rfl, vs, .inl (.inl h1)⟩⟩
theorem rmW {K : PySem.W.Frag} {ρ : Cl} {ds : List PyData} {v0 : V} {w : OA → Cl} (O : Own ρ v0 (aLD K ds) w) : Rlm K ρ (aV v0) ds := fun l c e p => by
  obtain ⟨e0, _⟩ := p
  obtain ⟨F1, F2, e1, q, _⟩ := O.get l c
  subst e0
  exact rmL l c e q
section
variable {X : Cx} {ρ ρ1 ρ2 ρ3 : Cl} {a b c e o : Expr} {pos p apos cpos : Pos} {A B : OA} {As As0 : List OA} {d : PyData} {ds : List PyData} {v0 : V} {w w0 : OA → Cl}
theorem xe_appendW (ho : XE X o ρ ρ (aV v0)) (h0 : Own ρ v0 (aL As0) w0) (he : XE X e ρ ρ1 B) (h1 : Own ρ1 v0 (aL As) w) (hz : As.length < sizeLine)
    (hbase : attributeBase o "append" X.env (eval o X.env) = eval o X.env := by rfl) (hfew : ((backTo cpos (starEach [e] X.env)).all (fun x => !x.1) && (backToKw cpos (keywordEach [] X.env)).all (fun x => x.1.isSome) && decide ([e].length + ([] : List Keyword).length + (if ([] : List Keyword).isEmpty then 0 else 1) < 30)) = true := by rfl)
    (hline : (apos.endLine == cpos.line) = true := by rfl) (hs : starEach [e] X.env = (false, eval e X.env) :: starEach [] X.env := by rfl) (hplain : (backTo cpos (starEach [] X.env)).any (·.1) = false := by rfl) :
    XE X (.Call (.Attribute o "append" apos) [e] [] cpos) ρ (w (aL (As ++ [B]))) (aD X.K .none) := fun E T t σ H l st Q k =>
  wE.of (pe_bm PySem.F.plainAttrs_list PySem.F.slot_list_append PySem.F.type_list_append mt_append peS (pa_cons peS pa_nil hs) hbase hfew hline hs hplain) (ho E T t σ H l st _ fun x H1 st1 => by
    obtain ⟨e0, ty⟩ := ST.isW (X := X) l st1 h0
    subst e0
    refine ⟨ty, he E (_ :: T) (_ :: t) σ H1 (by simp [l]) st1 _ fun y H2 st2 => ?_⟩
    have st3 : ST E (some B :: (T ++ ρ1)) (some y :: (t ++ σ)) H2 := by
      exact ST.drop2 st2
    obtain ⟨p, vs, e1, h2, hl, go⟩ := ST.modW l st3 h1
    refine ⟨p, vs, y, e1, rfl, h2, by rw [hl]; exact hz, k _ _ ?_⟩
    have st4 := go (As ++ [B]) (vs ++ [y]) fun G H F1 F2 c q => ⟨F1 ++ F2, fun b hb => hb, fun n => n, by simpa using c.append (Cs.ofNil q)⟩
    obtain ⟨G, F, f, c⟩ := st4
    exact ST.put f c .non)
theorem xe_appendDW {α : Type} {cv : α → PyData} {xs : List α} {x : α} (ho : XE X o ρ ρ (aV v0)) (h0 : Own ρ v0 (aL As0) w0) (he : XE X e ρ ρ1 (aD X.K (cv x))) (h1 : Own ρ1 v0 (aLD X.K (xs.map cv)) w) (hz : xs.length < sizeLine)
    (hbase : attributeBase o "append" X.env (eval o X.env) = eval o X.env := by rfl) (hfew : ((backTo cpos (starEach [e] X.env)).all (fun x => !x.1) && (backToKw cpos (keywordEach [] X.env)).all (fun x => x.1.isSome) && decide ([e].length + ([] : List Keyword).length + (if ([] : List Keyword).isEmpty then 0 else 1) < 30)) = true := by rfl)
    (hline : (apos.endLine == cpos.line) = true := by rfl) (hs : starEach [e] X.env = (false, eval e X.env) :: starEach [] X.env := by rfl) (hplain : (backTo cpos (starEach [] X.env)).any (·.1) = false := by rfl) :
    XE X (.Call (.Attribute o "append" apos) [e] [] cpos) ρ (w (aLD X.K ((xs ++ [x]).map cv))) (aD X.K .none) := by
  have q := xe_appendW (apos := apos) (cpos := cpos) ho h0 he h1 (by simpa using hz) hbase hfew hline hs hplain
  have e : (xs.map cv).map (aD X.K) ++ [aD X.K (cv x)] = ((xs ++ [x]).map cv).map (aD X.K) := by simp
  rwa [e] at q
theorem xp_setLW {j : Nat} {n : Int} (ho : XE X o ρ ρ (aV v0)) (hb : XE X b ρ ρ1 (aD X.K (.int n))) (h1 : Own ρ1 v0 (aL As) w) (hn : ixN As.length n = some j)
    (ha : ∀ v, assign (.Subscript o b pos) X.env v = (do
      let ov ← holding [v] (eval o X.env)
      let iv ← holding [v, ov] (eval b X.env)
      standAt pos
      holding [v, ov, iv] (setItem ov iv v)
      release [v, ov, iv] []) := by intro _; rfl) : XP X (.Subscript o b pos) B ρ (w (aL (As.set j B))) := fun E T t σ H v l st Q k =>
  wG.of (pg_sub peS peS set_list ha) (ho E (_ :: T) (_ :: t) σ H (by simp [l]) st _ fun x H1 st1 => by
    refine hb E (_ :: _ :: T) (_ :: _ :: t) σ H1 (by simp [l]) st1 _ fun y H2 st2 => ?_
    obtain ⟨G, F, f, c, q1⟩ := ST.top st2
    cases q1
    obtain ⟨u, F1, F2, e1, e2, ⟨e3, e4⟩, c⟩ := c
    cases e1
    subst e4 e2 e3
    obtain ⟨p, vs, e5, h2, hl, go⟩ := ST.modW l ⟨G, _, f, c⟩ h1
    have hj : j < As.length := by
      unfold ixN at hn
      split at hn
      · split at hn
        · cases hn; omega
        · cases hn
      · split at hn
        · cases hn; omega
        · cases hn
    exact ⟨p, vs, n, j, e5, rfl, h2, by rw [hl]; exact hn, k _ _ (go _ _ fun G H F1 F2 c q => cs_set hj c q)⟩)
variable {α : Type} {cv : α → PyData} {xs : List α}
end
end Mr

namespace Mr
open PySem PySem.Spec PyProof.Rows L2
theorem lookup_zip {f : Str} : ∀ {ns : List Str} {vs : List V} {k : Nat} {v : V}, ns.Nodup → ns[k]? = some f → vs[k]? = some v → (ns.zip vs).lookup f = some v
  | [], _, _, _, _, h, _ => by simp at h
  | _ :: _, [], _, _, _, _, h => by simp at h
  | n :: ns, u :: vs, 0, v, _, h, h2 => by
    have e1 : n = f := by simpa using h
    have e2 : u = v := by simpa using h2
    subst e1 e2
    have hb : (n == n) = true := beq_iff_eq.mpr rfl
    show List.lookup n ((n, u) :: ns.zip vs) = _
    simp only [List.lookup, hb]
  | n :: ns, u :: vs, k + 1, v, nd, h, h2 => by
    have h : ns[k]? = some f := by simpa using h
    have h2 : vs[k]? = some v := by simpa using h2
    have ne : f ≠ n := fun e => (List.nodup_cons.mp nd).1 (e ▸ List.mem_of_getElem? h)
    have hb : (f == n) = false := beq_eq_false_iff_ne.mpr ne
    show List.lookup f ((n, u) :: ns.zip vs) = _
    simp only [List.lookup, hb]
    exact lookup_zip (List.nodup_cons.mp nd).2 h h2
theorem lookup_no {f : Str} : ∀ {ns : List Str} {vs : List V}, f ∉ ns → (ns.zip vs).lookup f = none
  | [], _, _ => rfl
  | _ :: _, [], _ => rfl
  | n :: ns, u :: vs, h => by
    have hb : (f == n) = false := beq_eq_false_iff_ne.mpr fun e => h (by simp [e])
    show List.lookup f ((n, u) :: ns.zip vs) = _
    simp only [List.lookup, hb]
    exact lookup_no fun q => h (by simp [q])
theorem putF_zip {f : Str} {y : V} : ∀ {ns : List Str} {vs : List V} {k : Nat}, ns.Nodup → ns[k]? = some f → vs.length = ns.length → putF f y (ns.zip vs) = ns.zip (vs.set k y)
  | [], _, _, _, h, _ => by simp at h
  | _ :: _, [], _, _, _, h => by simp at h
  | n :: ns, u :: vs, 0, _, h, _ => by
    have e1 : n = f := by simpa using h
    subst e1
    show (if n = n then (n, y) :: ns.zip vs else _) = _
    rw [if_pos rfl]
    rfl
  | n :: ns, u :: vs, k + 1, nd, h, hl => by
    have h : ns[k]? = some f := by simpa using h
    have ne : n ≠ f := fun e => (List.nodup_cons.mp nd).1 (e ▸ List.mem_of_getElem? h)
    show (if n = f then _ else (n, u) :: putF f y (ns.zip vs)) = _
    rw [if_neg ne, putF_zip (List.nodup_cons.mp nd).2 h (by simpa using hl)]
    rfl
theorem putF_new {f : Str} {y : V} : ∀ {ns : List Str} {vs : List V}, f ∉ ns → vs.length = ns.length → putF f y (ns.zip vs) = (ns ++ [f]).zip (vs ++ [y])
  | [], [], _, _ => rfl
  | [], _ :: _, _, h => by simp at h
  | _ :: _, [], _, h => by simp at h
  | n :: ns, u :: vs, h, hl => by
    have ne : n ≠ f := fun e => h (by simp [e])
    show (if n = f then _ else (n, u) :: putF f y (ns.zip vs)) = _
    rw [if_neg ne, putF_new (fun q => h (by simp [q])) (by simpa using hl)]
    rfl
section
variable {X : Cx} {ρ ρ1 ρ2 ρ3 : Cl} {a b c e o : Expr} {pos pos' tpos p apos cpos : Pos} {A B : OA} {As As0 : List OA} {d : PyData} {ds : List PyData} {a0 v0 : V} {w w0 : OA → Cl} {C : Addr} {ns : List Str} {f : Str} {ω : Type} {rest : List Stmt} {m : Option ω} {Φ : ω → Ent → Ends → Prop}
theorem xe_fldD (k : Nat) (ho : XE X o ρ ρ1 (aV a0)) (O : Own ρ1 a0 (aObj C ns As) w) (c : Cls X.K C) (n : NoAttr X.K C f) (nd : ns.Nodup) (hf : ns[k]? = some f) (hk : As[k]? = some (aD X.K d)) (hb : attributeBase o f X.env (eval o X.env) = eval o X.env := by rfl) : XE X (.Attribute o f pos) ρ ρ1 (aD X.K d) := fun E T t σ H l st Q kk =>
  wE.of (pe_fld peS hb) (ho E T t σ H l st _ fun x H1 st1 => by
    obtain ⟨G, F, Fv, fr, cs, e0, _⟩ := ST.one st1
    subst e0
    obtain ⟨F1, F2, e1, ⟨p, dx, vs, F', e2, e3, h1, hl, c1⟩, go⟩ := O.get l cs
    obtain ⟨v, hv, hq⟩ := c1.getD hk
    exact ⟨p, C, dx, _, v, e2, h1, c, n, lookup_zip nd hf hv, kk v H1 (ST.put fr cs hq)⟩)
theorem xe_fldV (k : Nat) (ho : XE X o ρ ρ1 (aV a0)) (O : Own ρ1 a0 (aObj C ns As) w) (c : Cls X.K C) (n : NoAttr X.K C f) (nd : ns.Nodup) (hf : ns[k]? = some f) (hk : As[k]? = some (pin v0 A)) (hb : attributeBase o f X.env (eval o X.env) = eval o X.env := by rfl) : XE X (.Attribute o f pos) ρ ρ1 (aV v0) := fun E T t σ H l st Q kk =>
  wE.of (pe_fld peS hb) (ho E T t σ H l st _ fun x H1 st1 => by
    obtain ⟨G, F, Fv, fr, cs, e0, _⟩ := ST.one st1
    subst e0
    obtain ⟨F1, F2, e1, ⟨p, dx, vs, F', e2, e3, h1, hl, c1⟩, go⟩ := O.get l cs
    obtain ⟨v, Fa, Fb, hv, e4, ⟨e5, hq⟩, c2⟩ := c1.getP hk
    subst e5
    exact ⟨p, C, dx, _, v, e2, h1, c, n, lookup_zip nd hf hv, kk v H1 ⟨G, F, fr, v, [], F, rfl, rfl, ⟨rfl, rfl⟩, cs⟩⟩)
theorem xg_fld (k : Nat) (he : XE X e ρ ρ1 B) (ho : XE X o ρ1 ρ1 (aV a0)) (O : Own ρ1 a0 (aObj C ns As) w) (c : Cls X.K C) (n : NoAttr X.K C f) (nd : ns.Nodup) (hf : ns[k]? = some f) (h : XG X rest (w (aObj C ns (As.set k B))) m Φ) (hz : ns.length < 1000 := by exact Nat.le_of_ble_eq_true rfl)
    (hs : swapsWith e (some (.Attribute o f pos')) pos.line X.env = pure false := by rfl) : XG X (.Assign [.Attribute o f pos'] e pos :: rest) ρ m Φ := fun r hr E σ H D st q =>
  wS.of (pss_cons (ps_fld peS peS hs) pssS) (he E [] [] σ H rfl st _ fun y H1 st1 => ho E [_] [_] σ H1 rfl st1 _ fun x H2 st2 => by
    have ex : x = a0 := by
      obtain ⟨G, F, Fv, f, cs, e0, _⟩ := ST.one st2
      exact e0
    subst ex
    obtain ⟨p, dx, vs, e1, h1, hl, hl2, go⟩ := ST.modO (T := []) (t := []) rfl (ST.pop st2) O
    have hk := lt_of_get hf
    refine ⟨p, C, dx, _, e1, h1, c, n, by rw [List.length_zip]; omega, ?_⟩
    rw [putF_zip nd hf hl]
    exact h r hr E σ _ D (go ns _ _ (by rw [List.length_set]; exact hl) fun G H F1 F2 c q => cs_set (by omega) c q) q)
theorem xg_fldN (he : XE X e ρ ρ1 B) (ho : XE X o ρ1 ρ1 (aV a0)) (O : Own ρ1 a0 (aObj C ns As) w) (c : Cls X.K C) (n : NoAttr X.K C f) (hf : f ∉ ns) (h : XG X rest (w (aObj C (ns ++ [f]) (As ++ [B]))) m Φ) (hz : ns.length < 1000 := by exact Nat.le_of_ble_eq_true rfl)
    (hs : swapsWith e (some (.Attribute o f pos')) pos.line X.env = pure false := by rfl) : XG X (.Assign [.Attribute o f pos'] e pos :: rest) ρ m Φ := fun r hr E σ H D st q =>
  wS.of (pss_cons (ps_fld peS peS hs) pssS) (he E [] [] σ H rfl st _ fun y H1 st1 => ho E [_] [_] σ H1 rfl st1 _ fun x H2 st2 => by
    have ex : x = a0 := by
      obtain ⟨G, F, Fv, f, cs, e0, _⟩ := ST.one st2
      exact e0
    subst ex
    obtain ⟨p, dx, vs, e1, h1, hl, hl2, go⟩ := ST.modO (T := []) (t := []) rfl (ST.pop st2) O
    refine ⟨p, C, dx, _, e1, h1, c, n, by rw [List.length_zip]; omega, ?_⟩
    rw [putF_new hf hl]
    exact h r hr E σ _ D (go _ _ _ (by simp [hl]) fun G H F1 F2 c q => ⟨F1 ++ F2, fun b hb => hb, fun n => n, by simpa using c.append (Cs.ofNil q)⟩) q)
theorem xg_fldA {op : Operator} {g : Int → Int → Int} {rd : V → V → Hp → VK → Prop} {x z : Int} (k : Nat) (hop : InOp X op rd) (hrd : ∀ i j H Q, Q (.int (g i j)) H → rd (.int i) (.int j) H Q) (ho : XE X o ρ ρ (aV a0)) (O0 : Own ρ a0 (aObj C ns As0) w0) (hk0 : As0[k]? = some (aD X.K (.int x))) (he : XE X e ρ ρ1 (aD X.K (.int z))) (O : Own ρ1 a0 (aObj C ns As) w)
    (c : Cls X.K C) (n : NoAttr X.K C f) (nd : ns.Nodup) (hf : ns[k]? = some f) (h : XG X rest (w (aObj C ns (As.set k (aD X.K (.int (g x z)))))) m Φ) (hz : ns.length < 1000 := by exact Nat.le_of_ble_eq_true rfl) : XG X (.AugAssign (.Attribute o f tpos) op e pos :: rest) ρ m Φ := fun r hr E σ H D st q =>
  wS.of (pss_cons (ps_fldaug peS peS hop) pssS) (ho E [] [] σ H rfl st _ fun u H1 st1 => by
    obtain ⟨G, F, Fv, fr, cs, e0, _⟩ := ST.one st1
    subst e0
    have st2 : ST E ρ σ H1 := ST.pop st1
    obtain ⟨F1, F2, e1, ⟨p, dx, vs, F', e2, e3, h1, hl, c1⟩, go⟩ := O0.get (T := []) (t := []) rfl cs
    obtain ⟨v, hv, hq⟩ := c1.getD hk0
    cases hq
    subst e2
    refine ⟨p, C, dx, _, .int x, rfl, h1, c, n, lookup_zip nd hf hv, he E [] [] σ H1 rfl st2 _ fun y H2 st3 => ?_⟩
    obtain ⟨G2, F3, fr2, cs2, q2⟩ := ST.top st3
    cases q2
    refine hrd _ _ _ _ ?_
    obtain ⟨p', dx', vs', e4, h2, hl', hl2, go2⟩ := ST.modO (T := []) (t := []) rfl (ST.put (K := X.K) (v := .int (g x z)) fr2 cs2 (.int _)) O
    cases e4
    have hkk := lt_of_get hf
    refine ⟨dx', _, h2, by rw [List.length_zip]; omega, ?_⟩
    rw [putF_zip nd hf hl']
    exact h r hr E σ _ D (go2 ns _ _ (by rw [List.length_set]; exact hl') fun G H F1 F2 c q => cs_set (by omega) c q) q)
end
theorem rAdd_of (i j : Int) (H : Hp) (Q : VK) (h : Q (.int (i + j)) H) : rAdd (.int i) (.int j) H Q := ⟨i, j, rfl, rfl, h⟩
structure CalM (P : Program) (w : World) (K : PySem.W.Frag) (mg : Str → Option Value) (base : Heap) (k : Nat) (C : Addr) (x : Str) (sp : Sp) : Prop where
  ex : ∃ (f : Addr) (fd : FuncData) (ps : List Str), FnOk P w K mg base CX0 k f fd ps sp ∧ Meth K C x f ∧ Binds K fd ps []
structure CalC (P : Program) (w : World) (K : PySem.W.Frag) (mg : Str → Option Value) (base : Heap) (k : Nat) (C : Addr) (x : Str) (sp : Sp) : Prop where
  ex : ∃ (f : Addr) (fd : FuncData) (ps : List Str), FnOk P w K mg base CX0 k f fd ps sp ∧ mg x = some (.ref C) ∧ Mk K C f ∧ Binds K fd ps []
section
variable {X : Cx} {ρ ρ1 ρ2 ρ3 : Cl} {a b c e o : Expr} {es : List Expr} {pos p apos : Pos} {A A0 B : OA} {As As0 : List OA} {ls : List (Nat × Nat × V)} {δ γ : Type} {pre : δ → List OA} {m : δ → Option γ} {post : δ → γ → Cl} {ret : δ → γ → OA} {a0 : V} {w w0 : OA → Cl} {C : Addr} {ns : List Str} {x : Str} {xx : δ} {r : γ} {Po : Cl}
theorem Frm.made {G H : Hp} {x dx : Addr} {o o' : HO} (e : Ex G H) (n : H x = none) (n' : H dx = none) (ne : dx ≠ x) : Frm ⟨G, H, []⟩ G (upd (upd H dx o') x o) [x] where
  gg := .refl _
  gh := (e.trans (.new n')).trans (.new (by rw [upd_ne ne.symm]; exact n))
  nd := by simp
  dis := fun b hb => by
    have e1 : b = x := by simpa using hb
    subst e1
    cases q : G b with
    | none => rfl
    | some u => rw [e b u q] at n; cases n
  live := fun b hb => by
    have e1 : b = x := by simpa using hb
    subst e1
    rw [upd_same]; simp
  keep := fun b u q _ => Ex.new (by rw [upd_ne ne.symm]; exact n) b u (Ex.new n' b u q)
  fp := fun b hb => by
    have e1 : b = x := by simpa using hb
    subst e1
    exact .inr n
  gn := fun b u q n' => by rw [show G b = none from n'] at q; cases q
theorem make_core {E : Ent} {T : Cl} {t σ : L2.St} {H : Hp} {vs : List V} {Q : VK} {XE' : XK} {z dx : Addr} (l : T.length = t.length) (hl : vs.length = As.length) (st : ST E (As.map some ++ (T ++ ρ1)) (vs.map some ++ (t ++ σ)) H) (hv : ∀ p ∈ ls, vs[p.1]? = some p.2.2 ∧ σ[p.2.1]? = some (some p.2.2))
    (nz : H z = none) (ndx : H dx = none) (ne : dx ≠ z) (hm : m xx = some r) (hpre : pre xx = aObj C [] [] :: As) (hpost : post xx r = some B :: Po) (hret : ret xx r = aD X.K .none) (hP : Po.length = As.length) (n1 : (ls.map (·.1)).Nodup) (n2 : (ls.map (·.2.1)).Nodup) (hls : ∀ p ∈ ls, ρ1[p.2.1]? = some none)
    (kk : ∀ v H', ST E (some B :: (T ++ backs Po ls ρ1)) (some v :: (t ++ σ)) H' → Q v H') : SpM pre m post ret (.ref z :: vs) (upd (upd H dx (.own z)) z (.ins C dx [])) (fun v H2 => v = .non ∧ Q (.ref z) H2) XE' := by
  obtain ⟨G, F, f, c⟩ := st
  have fm := Frm.made (o := .ins C dx []) (o' := .own z) f.gh nz ndx ne
  obtain ⟨f0, keep0⟩ := f.step (Fa := []) (Fr := F) (.refl _) fm
  have c0 := c.mono (.refl _) f0.gh keep0
  obtain ⟨F1, F2, e1, c1, c2⟩ := c0.unappend (by simp [hl])
  subst e1
  have f0 : Frm E G (upd (upd H dx (.own z)) z (.ins C dx [])) ((z :: F1) ++ F2) := f0
  refine ⟨xx, r, G, z :: F1, hm, (f0.less (List.sublist_append_left _ _)).start, ?_, by rw [hpre]; simp [hl], fun v H2 st2 => ?_⟩
  · rw [hpre]
    exact ⟨.ref z, [z], F1, rfl, rfl, ⟨z, dx, [], [], rfl, rfl, upd_same, rfl, rfl⟩, c1⟩
  · obtain ⟨G2, F3, f3, v', F4, F5, e3, e4, q, c3⟩ := st2
    cases e3
    subst e4
    rw [hret] at q
    obtain ⟨q, eq0⟩ := q
    cases q
    subst eq0
    refine ⟨rfl, kk _ _ ?_⟩
    rw [hpost] at c3
    obtain ⟨u, FB, FP, e5, e6, qB, c4⟩ := c3
    cases e5
    subst e6
    obtain ⟨f4, keep⟩ := f0.step (Fa := z :: F1) (Fr := F2) (.refl _) f3
    have c5 := c4.append (c2.mono f3.gg f3.gh keep)
    have n5 : (FB ++ (FP ++ F2)).Nodup := by rw [← List.append_assoc]; exact f4.nd
    obtain ⟨m1, m2, m3⟩ := List.nodup_append.mp n5
    obtain ⟨F6, ha, hb, c7⟩ := cs_backs l ls Po ρ1 _ (hP.trans hl.symm) n1 (fun p hp => ⟨(hv p hp).1, (hv p hp).2, hls p hp⟩) n2 c5 m2
    exact ⟨G2, FB ++ F6, f4.sub (List.nodup_append.mpr ⟨m1, ha, fun x hx y hy => m3 x hx y (hb y hy)⟩) (fun x hx => by
      show x ∈ (FB ++ FP) ++ F2
      rw [List.append_assoc]
      rcases List.mem_append.mp hx with z | z
      · exact List.mem_append_left _ z
      · exact List.mem_append_right _ (hb x z)), .ref z, FB, F6, rfl, rfl, qB, c7⟩
theorem xe_make0 {k : Nat} (M : CalC X.prog X.w X.K X.mg X.base k C x (SpM pre m post ret)) (hr : Room (k + 1) X.A) (hm : m xx = some r)
    (hpre : pre xx = [aObj C [] []]) (hpost : post xx r = [some B]) (hret : ret xx r = aD X.K .none)
    (hg : Gl X x := by rfl) (hdb : (x == ("__debug__" : Str)) = false := by decide) : XE X (.Call (.Name x p) [] [] pos) ρ ρ B := fun E T t σ H l st Q kk => by
  obtain ⟨f, fd, ps, F, h1, h2, h3⟩ := M.ex
  refine wE.of (pe_make0 (E := fun _ _ _ => False) h2 F hr hg h1 h3 .nil pass0 hdb) fun z dx nz ndx ne => ?_
  exact make_core (XE' := fun _ _ _ => False) (As := []) (ls := []) (vs := []) l rfl st (fun _ h => by simp at h) nz ndx ne hm hpre hpost hret rfl .nil .nil (fun _ h => by simp at h) kk
end
end Mr

namespace Mr
open PySem PySem.Spec PyProof.Rows L2
def Imp (A B : OA) : Prop := ∀ {G H : Hp} {v : V} {F : List Addr}, A.P G H v F → B.P G H v F
theorem imp_rfl {A : OA} : Imp A A := fun h => h
theorem imp_pin {A B : OA} {v0 : V} (h : Imp A B) : Imp (pin v0 A) (pin v0 B) := fun q => ⟨q.1, h q.2⟩
inductive ImpL : List OA → List OA → Prop
  | nil : ImpL [] []
  | cons {A B : OA} {As Bs : List OA} : Imp A B → ImpL As Bs → ImpL (A :: As) (B :: Bs)
theorem ImpL.cs {G H : Hp} : ∀ {As Bs : List OA} {σ : List (Option V)} {F : List Addr}, ImpL As Bs → Cs G H (As.map some) σ F → Cs G H (Bs.map some) σ F
  | _, _, [], _, .nil, c => c
  | _, _, _ :: _, _, .nil, c => c
  | _, _, [], _, .cons _ _, c => c.elim
  | _, _, _ :: _, _, .cons h t, c => by
    obtain ⟨v, F1, F2, e1, e2, q, c⟩ := c
    exact ⟨v, F1, F2, e1, e2, h q, t.cs c⟩
theorem imp_obj {C : Addr} {ns : List Str} {As Bs : List OA} (h : ImpL As Bs) : Imp (aObj C ns As) (aObj C ns Bs) := fun q => by
  obtain ⟨p, dx, vs, F', e2, e3, h1, hl, c1⟩ := q
  exact ⟨p, dx, vs, F', e2, e3, h1, hl, h.cs c1⟩
theorem Own.weak {ρ : Cl} {v0 : V} {A A' : OA} {w : OA → Cl} (O : Own ρ v0 A w) (h : Imp A A') : Own ρ v0 A' w := ⟨fun {G H T t σ F} l c => by
  obtain ⟨F1, F2, e1, q, go⟩ := O.get l c
  exact ⟨F1, F2, e1, h q, go⟩⟩
theorem Cs.weak {G H : Hp} : ∀ {ρ : Cl} {σ : L2.St} {F : List Addr} {i : Nat} {A B : OA}, Cs G H ρ σ F → ρ[i]? = some (some A) → Imp A B → Cs G H (ρ.set i (some B)) σ F
  | [], _, _, _, _, _, _, h, _ => by simp at h
  | none :: _, [], _, _, _, _, c, _, _ => c.elim
  | some _ :: _, [], _, _, _, _, c, _, _ => c.elim
  | none :: ρ, _ :: σ, F, 0, A, B, c, h, _ => by simp at h
  | some A' :: ρ, x :: σ, F, 0, A, B, c, h, w => by
    have e : A' = A := by simpa using h
    subst e
    obtain ⟨v, F1, F2, e1, e2, q, c⟩ := c
    exact ⟨v, F1, F2, e1, e2, w q, c⟩
  | none :: ρ, x :: σ, F, i + 1, A, B, c, h, w => Cs.weak (ρ := ρ) (σ := σ) (i := i) c (by simpa using h) w
  | some A' :: ρ, x :: σ, F, i + 1, A, B, c, h, w => by
    obtain ⟨v, F1, F2, e1, e2, q, c⟩ := c
    exact ⟨v, F1, F2, e1, e2, q, Cs.weak (i := i) c (by simpa using h) w⟩
section
variable {X : Cx} {ω : Type} {sts : List Stmt} {m : Option ω} {Φ : ω → Ent → Ends → Prop} {ρ ρ1 ρ2 : Cl} {A B : OA} {a b e o : Expr} {pos p tpos : Pos}
theorem xg_weak (i : Nat) (h : ρ[i]? = some (some A)) (w : Imp A B) (k : XG X sts (ρ.set i (some B)) m Φ) : XG X sts ρ m Φ := fun r hr E σ H D st q => by
  obtain ⟨G, F, f, c⟩ := st
  exact k r hr E σ H D ⟨G, F, f, c.weak h w⟩ q
theorem xe_weak (he : XE X e ρ ρ1 A) (i : Nat) {B B' : OA} (h : ρ1[i]? = some (some B)) (w : Imp B B') : XE X e ρ (ρ1.set i (some B')) A := fun E T t σ H l st Q k => he E T t σ H l st Q fun v H' st1 => k v H' (by
  obtain ⟨G, F, f, c⟩ := st1
  have q := Cs.weak (i := (some A :: T).length + i) (A := B) (B := B') c (by
    show ((some A :: T) ++ ρ1)[_]? = _
    rw [append_get_right]; exact h) w
  have e : ((some A :: T) ++ ρ1).set ((some A :: T).length + i) (some B') = (some A :: T) ++ ρ1.set i (some B') := append_set_right _ _ _ _
  have q : Cs G H' (((some A :: T) ++ ρ1).set ((some A :: T).length + i) (some B')) (some v :: (t ++ σ)) F := q
  rw [e] at q
  exact ⟨G, F, f, q⟩)
end
end Mr

namespace Mr
open PySem PySem.Spec PyProof.Rows L2
section
variable {α : Type}
def dGet (kvs : List (Int × α)) (k : Int) : Option α := (kvs.find? fun kv => decide (kv.1 = k)).map (·.2)
def dHas (kvs : List (Int × α)) (k : Int) : Bool := (dGet kvs k).isSome
def dPut (kvs : List (Int × α)) (k : Int) (v : α) : List (Int × α) :=
  if (kvs.any fun kv => decide (kv.1 = k)) = true then kvs.map (fun kv => if kv.1 = k then (kv.1, v) else kv) else kvs ++ [(k, v)]
def dDel (kvs : List (Int × α)) (k : Int) : List (Int × α) := kvs.filter fun kv => decide (kv.1 ≠ k)
def dKeys (kvs : List (Int × α)) : List Int := kvs.map (·.1)
end
inductive KvD (K : PySem.W.Frag) (G : Hp) : List (Key × V) → List (Int × PyData) → Prop
  | nil : KvD K G [] []
  | cons {k : Int} {v : V} {d : PyData} {ws : List (Key × V)} {kvs : List (Int × PyData)} : Dq K G v d → KvD K G ws kvs → KvD K G ((Sum.inl k, v) :: ws) ((k, d) :: kvs)
section
variable {K : PySem.W.Frag} {G G' : Hp}
theorem KvD.mono (e : Ex G G') : ∀ {ws : List (Key × V)} {kvs : List (Int × PyData)}, KvD K G ws kvs → KvD K G' ws kvs
  | _, _, .nil => .nil
  | _, _, .cons h t => .cons (Dq.mono e _ _ h) (t.mono e)
theorem KvD.len : ∀ {ws : List (Key × V)} {kvs : List (Int × PyData)}, KvD K G ws kvs → ws.length = kvs.length
  | _, _, .nil => rfl
  | _, _, .cons h t => congrArg (· + 1) t.len
theorem KvD.keys : ∀ {ws : List (Key × V)} {kvs : List (Int × PyData)}, KvD K G ws kvs → ws.map (·.1) = (dKeys kvs).map Sum.inl
  | _, _, .nil => rfl
  | _, _, .cons h t => by
    show _ :: _ = _ :: _
    rw [t.keys]
    rfl
theorem KvD.get : ∀ {ws : List (Key × V)} {kvs : List (Int × PyData)} {k : Int} {d : PyData}, KvD K G ws kvs → dGet kvs k = some d → ∃ v, valV ws (Sum.inl k) = some v ∧ Dq K G v d
  | _, _, k, d, .nil, h => by simp [dGet] at h
  | _, _, k, d, .cons (k := k') (v := v) (d := d') (kvs := kvs') h1 t, h => by
    by_cases e : k' = k
    · subst e
      have : some d' = some d := by simpa [dGet, List.find?_cons] using h
      cases this
      exact ⟨v, valV_pos rfl, h1⟩
    · have h : dGet kvs' k = some d := by simpa [dGet, List.find?_cons, e] using h
      obtain ⟨w, e1, e2⟩ := t.get h
      exact ⟨w, by rw [valV_neg (fun q => e (Sum.inl.inj q))]; exact e1, e2⟩
theorem KvD.has : ∀ {ws : List (Key × V)} {kvs : List (Int × PyData)} {k : Int}, KvD K G ws kvs → (valV ws (Sum.inl k)).isSome = dHas kvs k
  | _, _, k, .nil => rfl
  | _, _, k, .cons (k := k') (v := v) h1 t => by
    by_cases e : k' = k
    · subst e
      rw [valV_pos rfl]
      simp [dHas, dGet, List.find?_cons]
    · rw [valV_neg (fun q => e (Sum.inl.inj q)), t.has]
      simp [dHas, dGet, List.find?_cons, e]
theorem KvD.any : ∀ {ws : List (Key × V)} {kvs : List (Int × PyData)} {k : Int}, KvD K G ws kvs → (ws.any fun kv => decide (kv.1 = Sum.inl k)) = (kvs.any fun kv => decide (kv.1 = k))
  | _, _, k, .nil => rfl
  | _, _, k, .cons (k := k') h1 t => by
    rw [List.any_cons, List.any_cons, t.any]
    congr 1
    exact decide_eq_decide.mpr ⟨fun q => Sum.inl.inj q, fun q => congrArg Sum.inl q⟩
theorem KvD.repl {v : V} {d : PyData} (hv : Dq K G v d) : ∀ {ws : List (Key × V)} {kvs : List (Int × PyData)} {k : Int}, KvD K G ws kvs → KvD K G (ws.map fun kv => if kv.1 = Sum.inl k then (kv.1, v) else kv) (kvs.map fun kv => if kv.1 = k then (kv.1, d) else kv)
  | _, _, k, .nil => .nil
  | _, _, k, .cons (k := k') h1 t => by
    rw [List.map_cons, List.map_cons]
    by_cases e : k' = k
    · subst e
      rw [if_pos rfl, if_pos rfl]
      exact .cons hv (t.repl hv)
    · rw [if_neg (fun q => e (Sum.inl.inj q)), if_neg e]
      exact .cons h1 (t.repl hv)
theorem KvD.snoc {v : V} {d : PyData} {k : Int} (hv : Dq K G v d) : ∀ {ws : List (Key × V)} {kvs : List (Int × PyData)}, KvD K G ws kvs → KvD K G (ws ++ [(Sum.inl k, v)]) (kvs ++ [(k, d)])
  | _, _, .nil => .cons hv .nil
  | _, _, .cons h1 t => .cons h1 (t.snoc hv)
theorem KvD.put {v : V} {d : PyData} {k : Int} {ws : List (Key × V)} {kvs : List (Int × PyData)} (h : KvD K G ws kvs) (hv : Dq K G v d) : KvD K G (putK ws (Sum.inl k) v) (dPut kvs k d) := by
  unfold putK dPut
  rw [h.any]
  split
  · exact h.repl hv
  · exact h.snoc hv
theorem KvD.drop : ∀ {ws : List (Key × V)} {kvs : List (Int × PyData)} {k : Int}, KvD K G ws kvs → KvD K G (dropK ws (Sum.inl k)) (dDel kvs k)
  | _, _, k, .nil => .nil
  | _, _, k, .cons (k := k') (v := v) (ws := ws) (kvs := kvs) h1 t => by
    have ih := t.drop (k := k)
    unfold dropK dDel at ih ⊢
    rw [List.filter_cons, List.filter_cons]
    by_cases e : k' = k
    · subst e
      rw [if_neg (by simp), if_neg (by simp)]
      exact ih
    · rw [if_pos (by simp [e]), if_pos (by simp [e])]
      exact .cons h1 ih
end
section
variable {α : Type} [Cd α]
end
section
variable {X : Cx} {ρ ρ1 ρ2 : Cl} {a b e o : Expr} {pos pos' tpos p apos cpos : Pos} {v0 : V} {w w0 w1 : OA → Cl} {α : Type} [Cd α] {kvs kvs0 kvs1 : List (Int × α)} {k : Int} {x : α} {ω : Type} {rest : List Stmt} {m : Option ω} {Φ : ω → Ent → Ends → Prop}
theorem hu1 (h : X.A.units + 64 < cLine) : X.A.units + 1 < cLine := Nat.lt_of_le_of_lt (Nat.add_le_add_left (by decide : 1 ≤ 64) _) h
theorem ST.topV {E : Ent} {L : Cl} {C : L2.St} {H : Hp} {v : V} (st : ST E (some (aV v0) :: L) (some v :: C) H) : v = v0 := by
  obtain ⟨G, F, Fv, f, cs, e0, _⟩ := ST.one st
  exact e0
end
end Mr

namespace Mr
open PySem PySem.Spec PyProof.Rows L2
theorem dq_vints {K : PySem.W.Frag} {G : Hp} : ∀ {ys : List V} {xs : List Int}, DqAll K G ys (xs.map PyData.int) → ys = xs.map V.int
  | _, [], h => by cases h; rfl
  | _, x :: xs, h => by
    cases h with
    | cons h1 h2 => cases h1; rw [dq_vints h2]; rfl
section
variable {X : Cx} {ρ ρ1 ρ2 : Cl} {a b e : Expr} {pos : Pos} {A B : OA}
end
end Mr

namespace Mr
open PySem PySem.Spec PyProof.Rows L2
section
variable {X : Cx} {ρ ρ1 ρ2 : Cl} {a b e : Expr} {pos : Pos} {β κ : Type} {N : β → Cl} {rest : List Expr}
end
end Mr

namespace Mr
open PySem PySem.Spec PyProof.Rows L2
section
variable {X : Cx} {ρ ρ1 : Cl} {o : Expr} {pos p : Pos} {v0 : V} {w : OA → Cl} {α : Type} [Cd α] {kvs : List (Int × α)}
end
end Mr

namespace Mr
open PySem PySem.Spec PyProof.Rows L2
def RgOk (a b c : Int) : Prop := c ≠ 0 ∧ c.natAbs < 1073741824 ∧ Builtin.Range.small a b c = true ∧ 0 ≤ Builtin.Range.rangeSize a b c
instance : Decidable (RgOk a b c) := by unfold RgOk; exact inferInstance
section
variable {X : Cx} {ρ ρ1 ρ2 ρ3 : Cl} {a b c : Expr} {tg : Expr} {pos p : Pos}
end
end Mr

namespace Mr
open PySem PySem.Spec PyProof.Rows L2
section
variable {X : Cx} {C : Addr} {x : Str} {p pos : Pos}
end
section
variable {X : Cx} {ζ β ω : Type} {sts rest : List Stmt} {ρ ρ1 ρx : Cl} {a c e : Expr} {pos p : Pos} {W : WX} {cz : Value} {R : ζ → Cl} {N : β → Cl} {Φ : ω → Ent → Ends → Prop} {A : OA}
end
section
variable {X : Cx} {α ζ β : Type} {body rest : List Stmt} {ρ ρ1 : Cl} {tg iter : Expr} {pos : Pos} {W : WX} {cz : Value} {R : ζ → Cl} {N : β → Cl}
end
section
variable {P : Program} {w : World} {K : PySem.W.Frag} {mg : Str → Option Value} {base : Heap} {δ ζ : Type} {pre : δ → List OA} {mz : δ → Option ζ} {post : δ → ζ → Cl} {c : Value}
end
section
variable {X : Cx} {ρ ρ1 ρx : Cl} {e o : Expr} {es : List Expr} {pos p apos : Pos} {A A0 B : OA} {As As0 : List OA} {ls : List (Nat × Nat × V)} {δ ζ : Type} {pre : δ → List OA} {mz : δ → Option ζ} {post : δ → ζ → Cl} {a0 : V} {w w0 : OA → Cl} {C : Addr} {ns : List Str} {x : Str} {xx : δ} {z : ζ} {Po : Cl} {W : WX} {cz : Value}
end
section
variable {X : Cx} {CX : CXT} {k : Nat} {f C : Addr} {fd : FuncData} {ps : List Str} {sp : Sp} {E : L2.St → XK} {x m : Str} {p pos apos : Pos} {e o : Expr} {es : List Expr} {ta : TE} {t : TA}
end
section
variable {X : Cx} {ρ ρ1 ρx : Cl} {e o : Expr} {es : List Expr} {pos p apos : Pos} {A A0 B : OA} {As As0 : List OA} {ls : List (Nat × Nat × V)} {δ ζ : Type} {pre : δ → List OA} {mz : δ → Option ζ} {post : δ → ζ → Cl} {a0 : V} {w w0 : OA → Cl} {C : Addr} {ns : List Str} {x : Str} {xx : δ} {z : ζ} {Po : Cl} {W : WX} {cz : Value}
end
section
variable {X : Cx} {ζ β γ : Type} {body suite rest : List Stmt} {b₀ : Stmt} {ρ : Cl} {ρz : ζ → Cl} {N : β → Cl} {R : γ → Cl} {mz : Option ζ} {ks : ζ → Option γ} {x n : Str} {c cz : Value} {np pos pos' : Pos}
end
section
variable {X : Cx} {ρ : Cl} {a : Addr} {oe : Obj} {pn : List (Addr × Obj)} {C D : Addr} {xn xd : Str} {k : Bool} {p p1 p2 pos : Pos}
end
section
variable {X : Cx} {ρ ρ1 ρ2 : Cl} {a b : Expr} {pos : Pos} {k1 k2 : Bool}
theorem xk_notBl (ha : XE X a ρ ρ1 (aD X.K (.bool k1))) (hb : XE X b ρ1 ρ2 (aD X.K (.bool k2))) : XKm X (.Compare a [.IsNot] [b] pos) ρ ρ2 (!decide (k1 = k2)) :=
  ⟨_, pe_cmpR op_isnot_bl peS peS (nomark _), pt_cmpR op_isnot_bl peS peS (nomark _), fun E T t σ H l st Q kk => ha E T t σ H l st _ fun x H1 st1 => hb E (_ :: T) (_ :: t) σ H1 (by simp [l]) st1 _ fun y H2 st2 => by
    obtain ⟨G, F, f, cs, q1, q2⟩ := ST.top2 st2
    cases q1
    cases q2
    exact ⟨k1, k2, rfl, rfl, kk _ H2 (ST.put f cs (.bl _))⟩⟩
end
end Mr

namespace Mr
open PySem PySem.Spec PyProof.Rows L2
section
variable {X : Cx} {ω : Type} {sts : List Stmt} {m : Option ω} {Φ : ω → Ent → Ends → Prop} {ρ ρ1 ρ2 : Cl} {A B : OA} {a b : Expr} {pos : Pos} {As : List OA} {u v0 a0 : V}
end
section
variable {X : Cx} {ρ ρ1 : Cl} {A : OA} {a : Expr} {α : Type} [Cd α]
end
section
variable {X : Cx} {ρ ρ1 : Cl} {e : Expr} {n : Int}
end
end Mr

namespace Mr
open PySem PySem.Spec PyProof.Rows L2
structure T5 (α β γ δ ε : Type) where
  a : α
  b : β
  c : γ
  d : δ
  e : ε
  deriving DecidableEq
structure T6 (α β γ δ ε ζ : Type) where
  a : α
  b : β
  c : γ
  d : δ
  e : ε
  f : ζ
  deriving DecidableEq
section
variable {α β γ δ ε ζ : Type} [Cd α] [Cd β] [Cd γ] [Cd δ] [Cd ε] [Cd ζ]
instance : Cd (T5 α β γ δ ε) := ⟨fun p => .tuple [Cd.d p.a, Cd.d p.b, Cd.d p.c, Cd.d p.d, Cd.d p.e], max (Cd.dep α) (max (Cd.dep β) (max (Cd.dep γ) (max (Cd.dep δ) (Cd.dep ε)))) + 1, fun p => by simp [PyData.canLay0, PyData.canLayAll0, Cd.can], fun p => by
  have h1 := Cd.hdep p.a
  have h2 := Cd.hdep p.b
  have h3 := Cd.hdep p.c
  have h4 := Cd.hdep p.d
  have h5 := Cd.hdep p.e
  simp only [PyData.depth, PyData.depthAll]
  omega⟩
instance : Cd (T6 α β γ δ ε ζ) := ⟨fun p => .tuple [Cd.d p.a, Cd.d p.b, Cd.d p.c, Cd.d p.d, Cd.d p.e, Cd.d p.f], max (Cd.dep α) (max (Cd.dep β) (max (Cd.dep γ) (max (Cd.dep δ) (max (Cd.dep ε) (Cd.dep ζ))))) + 1, fun p => by simp [PyData.canLay0, PyData.canLayAll0, Cd.can], fun p => by
  have h1 := Cd.hdep p.a
  have h2 := Cd.hdep p.b
  have h3 := Cd.hdep p.c
  have h4 := Cd.hdep p.d
  have h5 := Cd.hdep p.e
  have h6 := Cd.hdep p.f
  simp only [PyData.depth, PyData.depthAll]
  omega⟩
instance : Cn (T5 α β γ δ ε) := ⟨fun _ => rfl⟩
instance : Cn (T6 α β γ δ ε ζ) := ⟨fun _ => rfl⟩
variable [DecidableEq α] [DecidableEq β] [DecidableEq γ] [DecidableEq δ] [DecidableEq ε] [DecidableEq ζ] [Ce α] [Ce β] [Ce γ] [Ce δ] [Ce ε] [Ce ζ]
instance : Ce (T5 α β γ δ ε) := ⟨fun x y => by
  show PyData.eqv (.tuple _) (.tuple _) = _
  obtain ⟨x1, x2, x3, x4, x5⟩ := x
  obtain ⟨y1, y2, y3, y4, y5⟩ := y
  simp [PyData.eqv, PyData.eqvAll, Ce.eqv, T5.mk.injEq]⟩
instance : Ce (T6 α β γ δ ε ζ) := ⟨fun x y => by
  show PyData.eqv (.tuple _) (.tuple _) = _
  obtain ⟨x1, x2, x3, x4, x5, x6⟩ := x
  obtain ⟨y1, y2, y3, y4, y5, y6⟩ := y
  simp [PyData.eqv, PyData.eqvAll, Ce.eqv, T6.mk.injEq]⟩
end
section
variable {X : Cx} {ρ ρ1 ρ2 : Cl} {a b : Expr} {pos p tpos : Pos} {ds : List PyData} {α β : Type} [Cd α] [Cd β]
end
end Mr

namespace Mr
open PySem PySem.Spec PyProof.Rows L2
def aN : OA := ⟨fun _ _ _ F => F = [], fun h _ _ _ => h⟩
section
variable {X : Cx} {ω : Type} {sts : List Stmt} {m : Option ω} {Φ : ω → Ent → Ends → Prop} {ρ ρ1 ρ2 : Cl} {A B : OA} {a b e : Expr} {es : List Expr} {pos : Pos} {As Bs : List OA} {u v v0 a0 : V}
inductive Cps (K : PySem.W.Frag) : List OA → List OA → Prop
  | nil : Cps K [] []
  | own {v : V} {A : OA} {As Bs : List OA} : Cps K As Bs → Cps K (pin v A :: As) (aV v :: Bs)
  | dat {d : PyData} {As Bs : List OA} : Cps K As Bs → Cps K (aD K d :: As) (aD K d :: Bs)
theorem Cps.cs {K : PySem.W.Frag} {G H : Hp} : ∀ {As Bs : List OA} {vs : List V} {F : List Addr}, Cps K As Bs → Cs G H (As.map some) (vs.map some) F → vs.length = Bs.length ∧ Cs G H (Bs.map some) (vs.map some) []
  | _, _, [], _, .nil, _ => ⟨rfl, rfl⟩
  | _, _, _ :: _, _, .nil, c => c.elim
  | _, _, [], _, .own _, c => c.elim
  | _, _, [], _, .dat _, c => c.elim
  | _, _, w :: vs, _, .own h, c => by
    obtain ⟨x, F1, F2, e1, e2, ⟨e3, q⟩, c⟩ := c
    cases e1
    subst e3
    obtain ⟨h1, h2⟩ := h.cs c
    exact ⟨by simp [h1], w, [], [], rfl, rfl, ⟨rfl, rfl⟩, h2⟩
  | _, _, w :: vs, _, .dat h, c => by
    obtain ⟨x, F1, F2, e1, e2, ⟨q, e3⟩, c⟩ := c
    cases e1
    obtain ⟨h1, h2⟩ := h.cs c
    exact ⟨by simp [h1], w, [], [], rfl, rfl, ⟨q, rfl⟩, h2⟩
end
section
variable {X : Cx} {ρ : Cl} {A : OA} {pos : Pos}
end
end Mr

namespace Mr
open PySem PySem.Spec PyProof.Rows L2
section
variable {X : Cx} {ρ ρ1 : Cl} {o : Expr} {v0 : V} {p pos : Pos} {w : OA → Cl} {kvs : List (Int × List PyData)}
end
end Mr

namespace Mr
open PySem PySem.Spec PyProof.Rows L2
structure TP (α β : Type) where
  a : α
  o : Option β
  deriving DecidableEq
structure Tu (α : Type) where
  l : List α
  deriving DecidableEq
instance {α β : Type} [Cd α] [Cd β] : Cd (TP α β) := ⟨fun p => .tuple (Cd.d p.a :: p.o.toList.map Cd.d), max (Cd.dep α) (Cd.dep β) + 1, fun p => by
  obtain ⟨a, o⟩ := p
  cases o <;> simp [PyData.canLay0, PyData.canLayAll0, Cd.can], fun p => by
  obtain ⟨a, o⟩ := p
  have h1 := Cd.hdep a
  cases o with
  | none => simp only [PyData.depth, PyData.depthAll, Option.toList, List.map_nil]; omega
  | some b =>
    have h2 := Cd.hdep b
    simp only [PyData.depth, PyData.depthAll, Option.toList, List.map_cons, List.map_nil]
    omega⟩
instance {α : Type} [Cd α] : Cd (Tu α) := ⟨fun p => .tuple (p.l.map Cd.d), Cd.dep α + 1, fun p => by simp [PyData.canLay0, can_all], fun p => by
  have := dep_all p.l
  simp only [PyData.depth]
  omega⟩
instance {α β : Type} [Cd α] [Cd β] : Cn (TP α β) := ⟨fun _ => rfl⟩
instance {α : Type} [Cd α] : Cn (Tu α) := ⟨fun _ => rfl⟩
instance {α β : Type} [Cd α] [Cd β] [DecidableEq α] [DecidableEq β] [Ce α] [Ce β] : Ce (TP α β) := ⟨fun x y => by
  show PyData.eqv (.tuple _) (.tuple _) = _
  obtain ⟨x1, x2⟩ := x
  obtain ⟨y1, y2⟩ := y
  cases x2 <;> cases y2 <;> simp [PyData.eqv, PyData.eqvAll, Ce.eqv, TP.mk.injEq]⟩
instance {α : Type} [Cd α] [DecidableEq α] [Ce α] : Ce (Tu α) := ⟨fun x y => by
  show PyData.eqv (.tuple _) (.tuple _) = _
  obtain ⟨x⟩ := x
  obtain ⟨y⟩ := y
  rw [PyData.eqv]
  simp only [Tu.mk.injEq]
  exact eqv_all x y⟩
section
variable {X : Cx} {ρ ρ1 ρ2 : Cl} {a b e : Expr} {pos : Pos} {A B : OA} {α β : Type} [Cd α] [Cd β]
end
end Mr

namespace Mr
open PySem PySem.Spec PyProof.Rows L2
def ShOk (i j : Int) : Prop := 0 ≤ j ∧ j ≤ 1000 ∧ i.natAbs < 2 ^ 1000
instance (i j : Int) : Decidable (ShOk i j) := by unfold ShOk; exact inferInstance
section
variable {X : Cx} {ρ ρ1 ρ2 : Cl} {a b : Expr} {pos : Pos} {i j : Int}
end
inductive Rf
  | ok (l : List Int)
  | no (b : Bool)
  deriving DecidableEq
def w_ref : Wd := ⟨"refused", by decide +kernel⟩
instance : Cd Rf := ⟨fun x => match x with | .ok xs => Cd.d xs | .no b => .list [Cd.d w_ref, Cd.d b], 1, fun x => by
  cases x with
  | ok xs => exact Cd.can xs
  | no b => simp [PyData.canLay0, PyData.canLayAll0, Cd.can], fun x => by
  cases x with
  | ok xs => exact Cd.hdep xs
  | no b =>
    have h1 := Cd.hdep w_ref
    have h2 := Cd.hdep b
    have e1 : Cd.dep Wd = 0 := rfl
    have e2 : Cd.dep Bool = 0 := rfl
    simp only [PyData.depth, PyData.depthAll]
    omega⟩
instance : Cn Rf := ⟨fun x => by cases x <;> rfl⟩
instance : Ce Rf := ⟨fun x y => by
  cases x with
  | ok xs =>
    cases y with
    | ok ys =>
      show PyData.eqv (Cd.d xs) (Cd.d ys) = _
      rw [Ce.eqv]
      exact decide_eq_decide.mpr ⟨fun h => congrArg Rf.ok h, fun h => by cases h; rfl⟩
    | no b =>
      show PyData.eqv (.list _) (.list _) = _
      rw [decide_eq_false (fun h => by cases h)]
      cases xs with
      | nil => simp [PyData.eqv, PyData.eqvAll]
      | cons x xs => 
        show PyData.eqv (.list (PyData.int x :: _)) (.list (PyData.str w_ref.1 :: _)) = _
        simp [PyData.eqv, PyData.eqvAll]
  | no a =>
    cases y with
    | ok ys =>
      show PyData.eqv (.list _) (.list _) = _
      rw [decide_eq_false (fun h => by cases h)]
      cases ys with
      | nil => simp [PyData.eqv, PyData.eqvAll]
      | cons x xs => 
        show PyData.eqv (.list (PyData.str w_ref.1 :: _)) (.list (PyData.int x :: _)) = _
        simp [PyData.eqv, PyData.eqvAll]
    | no b =>
      show PyData.eqv (.list _) (.list _) = _
      rw [PyData.eqv]
      simp only [PyData.eqvAll, Ce.eqv]
      rw [Bool.eq_iff_iff]
      simp⟩
section
variable {X : Cx} {ρ ρ1 : Cl} {e : Expr}
end
end Mr

namespace Mr
open PySem PySem.Spec PyProof.Rows L2
inductive Sm (α β : Type)
  | l (x : α)
  | r (y : β)
  deriving DecidableEq
instance {α β : Type} [Cd α] [Cd β] : Cd (Sm α β) := ⟨fun s => match s with | .l x => Cd.d x | .r y => Cd.d y, max (Cd.dep α) (Cd.dep β), fun s => by cases s <;> exact Cd.can _, fun s => by
  cases s with
  | l x => exact Nat.le_trans (Cd.hdep x) (Nat.le_max_left _ _)
  | r y => exact Nat.le_trans (Cd.hdep y) (Nat.le_max_right _ _)⟩
instance {α β : Type} [Cd α] [Cd β] [Cn α] [Cn β] : Cn (Sm α β) := ⟨fun s => by
  cases s with
  | l x => exact Cn.nn (α := α) x
  | r y => exact Cn.nn (α := β) y⟩
section
variable {α β γ δ ε ζ η θ ι : Type} [Cd α] [Cd β] [Cd γ] [Cd δ] [Cd ε] [Cd ζ] [Cd η] [Cd θ] [Cd ι] [DecidableEq α] [DecidableEq β] [DecidableEq γ] [DecidableEq δ] [DecidableEq ε] [DecidableEq ζ] [DecidableEq η] [DecidableEq θ] [DecidableEq ι] [Ce α] [Ce β] [Ce γ] [Ce δ] [Ce ε] [Ce ζ] [Ce η] [Ce θ] [Ce ι]
instance : Ce (Sm (T6 α β γ δ ε ζ) (T3 η θ ι)) := ⟨fun x y => by
  cases x with
  | l x =>
    cases y with
    | l y =>
      show PyData.eqv (Cd.d x) (Cd.d y) = _
      rw [Ce.eqv]
      exact decide_eq_decide.mpr ⟨fun h => congrArg Sm.l h, fun h => by cases h; rfl⟩
    | r y =>
      show PyData.eqv (.tuple _) (.tuple _) = _
      rw [decide_eq_false (fun h => by cases h)]
      simp [PyData.eqv, PyData.eqvAll]
  | r x =>
    cases y with
    | l y =>
      show PyData.eqv (.tuple _) (.tuple _) = _
      rw [decide_eq_false (fun h => by cases h)]
      simp [PyData.eqv, PyData.eqvAll]
    | r y =>
      show PyData.eqv (Cd.d x) (Cd.d y) = _
      rw [Ce.eqv]
      exact decide_eq_decide.mpr ⟨fun h => congrArg Sm.r h, fun h => by cases h; rfl⟩⟩
end
section
variable {X : Cx} {ρ ρ1 : Cl} {e : Expr} {α β : Type} [Cd α] [Cd β]
end
end Mr

namespace L2
open PySem PySem.Spec PyProof.Rows
section
variable {prog : Program} {w : World} {A : Around} {E : Value → Shared → Prop} {s : Shared}
end
section
variable {X : Cx}
end
end L2
namespace Mr
open PySem PySem.Spec PyProof.Rows L2
section
variable {X : Cx} {ρ ρ1 ρ2 : Cl} {o : Expr} {lo hi : Option Expr} {pos p2 : Pos} {v0 : V} {w : OA → Cl} {i j : Option Int}
end
end Mr

namespace Mr
open PySem PySem.Spec PyProof.Rows L2
section
variable {K : PySem.W.Frag} {α : Type} [Cd α] {ρ : Cl} {v0 : V} {w : OA → Cl}
end
theorem xe_stE {X : Cx} {e : Expr} {ρ ρ1 : Cl} {A : OA} (ρ1' : Cl) (h : XE X e ρ ρ1 A) (q : ρ1 = ρ1' := by rfl) : XE X e ρ ρ1' A := q ▸ h
section
variable {X : Cx} {α ω : Type} [Cd α] {sts rest body : List Stmt} {tg iter : Expr} {pos : Pos} {m : Option ω} {Φ : ω → Ent → Ends → Prop} {ρ ρ1 : Cl} {v0 : V} {vs : List V}
end
end Mr

namespace Mr
open PySem PySem.Spec PyProof.Rows L2
structure Ctn (c : List OA → OA) : Prop where
  kid : ∀ {G H : Hp} {v : V} {F : List Addr} {As : List OA} {k : Nat} {A : OA}, (c As).P G H v F → As[k]? = some A →
    ∃ u F1 F2, F.Perm (F1 ++ F2) ∧ A.P G H u F1 ∧ ∀ {G' H' : Hp} {F1' : List Addr} {B : OA}, Ex G G' → Ex G' H' → (∀ b ∈ F2, ∀ o, H b = some o → H' b = some o) → B.P G' H' u F1' → ∃ F', F'.Perm (F1' ++ F2) ∧ (c (As.set k B)).P G' H' v F'
  imp : ∀ {As Bs : List OA}, ImpL As Bs → Imp (c As) (c Bs)
theorem cs_kid {G H : Hp} {As : List OA} {vs : List V} {F' : List Addr} {k : Nat} {A : OA} (c1 : Cs G H (As.map some) (vs.map some) F') (hk : As[k]? = some A) :
    ∃ u F1 F2, F'.Perm (F1 ++ F2) ∧ A.P G H u F1 ∧ ∀ {G' H' : Hp} {F1' : List Addr} {B : OA}, Ex G G' → Ex G' H' → (∀ b ∈ F2, ∀ o, H b = some o → H' b = some o) → B.P G' H' u F1' → ∃ F3, F3.Perm (F1' ++ F2) ∧ Cs G' H' ((As.set k B).map some) (vs.map some) F3 := by
  obtain ⟨u, Fa, Fb, ev, e4, q, c2⟩ := c1.getP hk
  refine ⟨u, Fa, Fb, e4, q, fun {G' H' F1' B} e e' kp pB => ?_⟩
  have c3 := c2.mono e e' kp
  obtain ⟨F3, a3, c4⟩ := c3.join (A := B) (v := u) (F1 := F1') (by rw [List.length_map]; exact lt_of_get hk) pB
  have e6 : (vs.map some).set k (some u) = vs.map some := set_get (by rw [List.getElem?_map, ev]; rfl)
  rw [e6] at c4
  exact ⟨F3, a3, by simpa [List.map_set] using c4⟩
theorem ctnO {C : Addr} {ns : List Str} : Ctn (aObj C ns) := ⟨fun {G H v F As k A} q hk => by
  obtain ⟨p, dx, vs, F', e2, e3, h1, hl, c1⟩ := q
  subst e2 e3
  obtain ⟨u, Fa, Fb, e4, qa, go⟩ := cs_kid c1 hk
  refine ⟨u, Fa, p :: Fb, (List.Perm.cons p e4).trans List.perm_middle.symm, qa, fun {G' H' F1' B} e e' kp pB => ?_⟩
  obtain ⟨F3, a3, c4⟩ := go e e' (fun b hb => kp b (List.mem_cons_of_mem _ hb)) pB
  exact ⟨p :: F3, (List.Perm.cons p a3).trans List.perm_middle.symm, p, dx, vs, F3, rfl, rfl, kp p (by simp) _ h1, hl, c4⟩, imp_obj⟩
theorem Own.kid {ρ : Cl} {a0 v0 : V} {A : OA} {c : List OA → OA} {As : List OA} {w : OA → Cl} (hc : Ctn c) (O : Own ρ a0 (c As) w) (k : Nat) (hk : As[k]? = some (pin v0 A)) : Own ρ v0 A (fun B => w (c (As.set k (pin v0 B)))) := ⟨fun {G H T t σ F} l cs => by
  obtain ⟨F1, F2, e1, q, go⟩ := O.get l cs
  obtain ⟨u, Fa, Fb, e4, ⟨e5, qa⟩, back⟩ := hc.kid q hk
  subst e5
  refine ⟨Fa, Fb ++ F2, e1.trans (by rw [← List.append_assoc]; exact List.Perm.append_right F2 e4), qa, fun {G' H' Fa' B} e e' kp pB => ?_⟩
  obtain ⟨F5, a5, q5⟩ := back e e' (fun b hb => kp b (List.mem_append_left _ hb)) (B := pin u B) (F1' := Fa') ⟨rfl, pB⟩
  obtain ⟨F6, a6, c6⟩ := go e e' (fun b hb => kp b (List.mem_append_right _ hb)) q5
  exact ⟨F6, a6.trans (by rw [← List.append_assoc]; exact List.Perm.append_right F2 a5), c6⟩⟩
theorem ImpL.refl : ∀ As : List OA, ImpL As As
  | [] => .nil
  | A :: As => .cons imp_rfl (ImpL.refl As)
theorem ImpL.set : ∀ {As : List OA} {j : Nat} {A B : OA}, Imp A B → ImpL (As.set j A) (As.set j B)
  | [], _, _, _, _ => .nil
  | _ :: As, 0, _, _, h => .cons h (ImpL.refl As)
  | _ :: As, j + 1, _, _, h => .cons imp_rfl (ImpL.set h)
theorem imp_pinned {A B : OA} {v0 : V} (h : Imp A B) : Imp (pin v0 A) B := fun q => h q.2
section
variable {X : Cx} {ω : Type} {sts : List Stmt} {m : Option ω} {Φ : ω → Ent → Ends → Prop} {ρ ρ1 ρ2 : Cl} {A A0 B : OA} {a b e o : Expr} {es : List Expr} {pos p apos : Pos} {As Bs : List OA} {u v v0 a0 : V} {c : List OA → OA} {w : OA → Cl}
theorem st_pinC {E : Ent} {T : Cl} {t σ : L2.St} {H : Hp} (l : T.length = t.length) (st : ST E (T ++ ρ) (t ++ σ) H) (hc : Ctn c) (O : Own ρ a0 (c As) w) {k : Nat} (hk : As[k]? = some A) : ∃ v, ST E (T ++ w (c (As.set k (pin v A)))) (t ++ σ) H := by
  obtain ⟨G, F, f, cs⟩ := st
  obtain ⟨F1, F2, e1, q1, go⟩ := O.get l cs
  obtain ⟨u, Fa, Fb, e4, qa, back⟩ := hc.kid q1 hk
  obtain ⟨F5, a5, q5⟩ := back (.refl _) f.gh (fun b _ o q => q) (B := pin u A) (F1' := Fa) ⟨rfl, qa⟩
  obtain ⟨F6, a6, c6⟩ := go (.refl _) f.gh (fun b _ o q => q) q5
  exact ⟨u, G, F6, f.perm (e1.trans ((List.Perm.append_right F2 (e4.trans a5.symm)).trans a6.symm)), c6⟩
theorem xg_pinC (hc : Ctn c) (O : Own ρ a0 (c As) w) (k : Nat) (hk : As[k]? = some A) (kk : ∀ v, XG X sts (w (c (As.set k (pin v A)))) m Φ) : XG X sts ρ m Φ := fun r hr E σ H D st q => by
  obtain ⟨v, st2⟩ := st_pinC (T := []) (t := []) rfl st hc O hk
  exact kk v r hr E σ H D st2 q
end
def XX (X : Cx) (es : List Expr) (ρ ρ' : Cl) (As : List OA) (ls : List (Nat × V)) : Prop := ∀ (E : Ent) (T : Cl) (t σ : L2.St) (H : Hp), T.length = t.length → ST E (T ++ ρ) (t ++ σ) H →
  ∀ Q : List V → Hp → Prop, (∀ vs H', vs.length = As.length → (∀ p ∈ ls, vs[p.1]? = some p.2) → ST E (As.map some ++ (T ++ ρ')) (vs.map some ++ (t ++ σ)) H' → Q vs H') → wA X es σ H Q
inductive Fill (ls : List (Nat × V)) : Cl → Cl → Cl → Prop
  | nil {P ρ : Cl} : Fill ls P ρ ρ
  | cons {P ρ ρo : Cl} {v : V} {B : OA} {w : OA → Cl} (j : Nat) (hm : (j, v) ∈ ls) (hP : P[j]? = some (some B)) (O : Own ρ v aN w) (k : Fill ls (P.set j none) (w B) ρo) : Fill ls P ρ ρo
theorem cs_fill {G H : Hp} {T : Cl} {t σ : L2.St} {vs : List V} {ls : List (Nat × V)} (l : T.length = t.length) (hv : ∀ p ∈ ls, vs[p.1]? = some p.2) (ex : Ex G H) : ∀ {P ρ ρo : Cl} {F : List Addr}, Fill ls P ρ ρo → P.length = vs.length →
    Cs G H (P ++ (T ++ ρ)) (vs.map some ++ (t ++ σ)) F → ∃ F1 F2, F.Perm (F1 ++ F2) ∧ Cs G H (T ++ ρo) (t ++ σ) F1 := fun {P ρ ρo F} fl => by
  induction fl generalizing F with
  | nil =>
    intro hl c
    obtain ⟨F1, F2, e1, c1, c2⟩ := c.unappend (by simp [hl])
    subst e1
    exact ⟨F2, F1, List.perm_append_comm, c2⟩
  | @cons P ρ ρo v B w j hm hP O k ih =>
    intro hl c
    have lj : j < P.length := lt_of_get hP
    have h1 := hv _ hm
    obtain ⟨u, F1, F2, e1, e2, q, c1⟩ := c.split (i := j) (A := B) (by rw [List.getElem?_append_left lj, hP])
    rw [List.set_append_left _ _ lj] at c1
    have eu : u = v := by
      rw [List.getElem?_append_left (by simp; omega), List.getElem?_map, h1] at e1
      cases e1; rfl
    subst eu
    have c2 : Cs G H ((P.set j none ++ T) ++ ρ) ((vs.map some ++ t) ++ σ) F2 := by simpa using c1
    obtain ⟨Fo, Fr, e3, eo, go⟩ := O.get (by simp [l, hl]) c2
    have eo : Fo = [] := eo
    subst eo
    obtain ⟨F3, e4, c3⟩ := go (.refl _) ex (fun b _ o q => q) q
    obtain ⟨F4, F5, e5, c4⟩ := ih (by simpa using hl) (F := F3) (by simpa using c3)
    exact ⟨F4, F5, (e2.trans ((List.Perm.append_left F1 (by simpa using e3)).trans e4.symm)).trans e5, c4⟩
section
variable {X : Cx} {ρ ρ1 ρ2 ρ3 : Cl} {a b e o : Expr} {es : List Expr} {pos p apos : Pos} {A A0 B : OA} {As As0 : List OA} {ls ls' : List (Nat × V)} {δ γ : Type} {pre : δ → List OA} {m : δ → Option γ} {post : δ → γ → Cl} {ret : δ → γ → OA} {a0 : V} {w w0 : OA → Cl} {C : Addr} {ns : List Str} {x : Str} {xx : δ} {r : γ}
theorem xx_of (h : XA X es ρ ρ1 As) : XX X es ρ ρ1 As [] := fun E T t σ H l st Q k => h E T t σ H l st Q fun vs H' hl st' => k vs H' hl (fun _ hp => by simp at hp) st'
theorem xx_lend {As' : List OA} (j : Nat) {v0 : V} (h : XX X es ρ ρ1 As ls) (hj : As[j]? = some (aV v0)) (O : Own ρ1 v0 A w) (h2 : As.set j A = As' := by rfl) : XX X es ρ (w aN) As' ((j, v0) :: ls) := fun E T t σ H l st Q k => h E T t σ H l st Q fun vs H' hl hls st' => by
  subst h2
  obtain ⟨G, F, f, c⟩ := st'
  have lj : j < As.length := lt_of_get hj
  obtain ⟨v, F1, F2, e1, e2, ⟨e3, e4⟩, c1⟩ := c.split (i := j) (A := aV v0) (by rw [List.getElem?_append_left (by simpa using lj), List.getElem?_map, hj]; rfl)
  subst e3 e4
  have hv : vs[j]? = some v := by
    rw [List.getElem?_append_left (by simp [hl, lj]), List.getElem?_map] at e1
    cases q : vs[j]? with
    | none => rw [q] at e1; cases e1
    | some u => rw [q] at e1; cases e1; rfl
  rw [List.set_append_left _ _ (by simpa using lj)] at c1
  have c2 : Cs G H' (((As.map some).set j none ++ T) ++ ρ1) ((vs.map some ++ t) ++ σ) F2 := by simpa using c1
  obtain ⟨Fo, Fr, e5, qo, go⟩ := O.get (by simp [l, hl]) c2
  obtain ⟨F3, e6, c3⟩ := go (.refl _) f.gh (fun b _ o q => q) (B := aN) (F1' := []) rfl
  have c4 : Cs G H' ((As.map some ++ (T ++ w aN)).set j none) (vs.map some ++ (t ++ σ)) F3 := by
    rw [List.set_append_left _ _ (by simpa using lj)]
    simpa using c3
  obtain ⟨F5, e8, c5⟩ := c4.join (by simp; omega) qo
  have e9 : (vs.map some ++ (t ++ σ)).set j (some v) = vs.map some ++ (t ++ σ) := set_get (by rw [List.getElem?_append_left (by simp [hl, lj]), List.getElem?_map, hv]; rfl)
  rw [List.set_append_left _ _ (by simpa using lj), e9] at c5
  refine k vs H' (by simp [hl]) (fun p hp => ?_) ⟨G, F5, f.perm ?_, by simpa [List.map_set] using c5⟩
  · rcases List.mem_cons.mp hp with hp | hp
    · subst hp; exact hv
    · exact hls p hp
  · have e2' : F.Perm F2 := by simpa using e2
    exact (e2'.trans (e5.trans (List.Perm.append_left Fo (by simpa using e6.symm)))).trans e8.symm
theorem fill_core {E : Ent} {T : Cl} {t σ : L2.St} {H : Hp} {vs : List V} {Q : VK} {XE' : XK} {ρo : Cl} (l : T.length = t.length) (hl : vs.length = As.length) (st : ST E (As.map some ++ (T ++ ρ1)) (vs.map some ++ (t ++ σ)) H) (hv : ∀ p ∈ ls, vs[p.1]? = some p.2)
    (hm : m xx = some r) (hpre : pre xx = As) (hP : (post xx r).length = As.length) (fl : Fill ls (post xx r) ρ1 ρo)
    (kk : ∀ v H', ST E (some (ret xx r) :: (T ++ ρo)) (some v :: (t ++ σ)) H' → Q v H') : SpM pre m post ret vs H Q XE' := by
  obtain ⟨G, F, f, c⟩ := st
  obtain ⟨F1, F2, e1, c1, c2⟩ := c.unappend (by simp [hl])
  subst e1
  refine ⟨xx, r, G, F1, hm, (f.less (List.sublist_append_left _ _)).start, by rw [hpre]; exact c1, by rw [hpre]; exact hl, fun v H2 st2 => kk v H2 ?_⟩
  obtain ⟨G2, F3, f3, w, F4, F5, e2, e3, q, c3⟩ := st2
  cases e2
  subst e3
  obtain ⟨f4, keep⟩ := f.step (Fa := F1) (Fr := F2) (.refl _) f3
  have c4 : Cs G2 H2 (T ++ ρ1) (t ++ σ) F2 := c2.mono f3.gg f3.gh keep
  have c5 := c3.append c4
  obtain ⟨F6, F7, e7, c6⟩ := cs_fill l hv f3.gh fl (hP.trans hl.symm) c5
  refine ⟨G2, F4 ++ F6, (f4.perm ?_).less (List.sublist_append_left _ F7), v, F4, F6, rfl, rfl, q, c6⟩
  rw [List.append_assoc, List.append_assoc]
  exact List.Perm.append_left F4 e7
theorem xe_callX {k : Nat} {ρo : Cl} (Cc : Cal X.prog X.w X.K X.mg X.base k x (SpM pre m post ret)) (hr : Room k X.A) (hm : m xx = some r) (ha : XX X (e :: es) ρ ρ1 (pre xx) ls) (hP : (post xx r).length = (pre xx).length) (hA : ret xx r = A) (fl : Fill ls (post xx r) ρ1 ρo)
    (hg : Gl X x := by rfl) (hdb : (x == ("__debug__" : Str)) = false := by decide) (he : starEach (e :: es) X.env = (false, eval e X.env) :: starEach es X.env := by rfl) (hpl : (backTo pos (starEach es X.env)).any (·.1) = false := by rfl) :
    XE X (.Call (.Name x p) (e :: es) [] pos) ρ ρo A := fun E T t σ H l st Q kk => by
  subst hA
  obtain ⟨f, fd, ps, F, h1, h2, h3⟩ := Cc.ex
  refine wE.of (pe_call F hr hg h1 h2 h3 .nil pass0 paS hdb he hpl) (ha E T t σ H l st _ fun vs H' hl hv st' => ?_)
  rw [List.append_nil]
  exact fill_core l hl st' hv hm rfl hP fl kk
theorem self_lend {E : Ent} {T : Cl} {t σ : L2.St} {H : Hp} {vs : List V} (l : T.length = t.length) (hl : vs.length = As.length) (st : ST E (As.map some ++ (T ++ ρ1)) (vs.map some ++ (t ++ σ)) H) (O : Own ρ1 a0 A0 w) : ST E ((A0 :: As).map some ++ (T ++ w aN)) ((a0 :: vs).map some ++ (t ++ σ)) H := by
  obtain ⟨G, F, f, c⟩ := st
  have c2 : Cs G H ((As.map some ++ T) ++ ρ1) ((vs.map some ++ t) ++ σ) F := by simpa using c
  obtain ⟨Fo, Fr, e5, qo, go⟩ := O.get (by simp [l, hl]) c2
  obtain ⟨F3, e6, c3⟩ := go (.refl _) f.gh (fun b _ o q => q) (B := aN) (F1' := []) rfl
  exact ⟨G, Fo ++ F3, f.perm (e5.trans (List.Perm.append_left Fo (by simpa using e6.symm))), a0, Fo, F3, rfl, rfl, qo, by simpa using c3⟩
theorem self_ls {vs : List V} (hv : ∀ p ∈ ls, vs[p.1]? = some p.2) (h : ls' = (0, a0) :: ls.map fun p => (p.1 + 1, p.2)) : ∀ p ∈ ls', (a0 :: vs)[p.1]? = some p.2 := fun p hp => by
  subst h
  rcases List.mem_cons.mp hp with z | z
  · subst z; rfl
  · obtain ⟨q, hq, e⟩ := List.mem_map.mp z
    subst e
    exact hv q hq
theorem xe_methX {k : Nat} {ρo : Cl} {pl : Sem Bool} (M : CalM X.prog X.w X.K X.mg X.base k C x (SpM pre m post ret)) (cl : Cls X.K C) (hn : x ∉ ns) (hr : Room k X.A) (hm : m xx = some r) (ho : XE X o ρ ρ (aV a0)) (O0 : Own ρ a0 (aObj C ns As0) w0) (ha : XX X (e :: es) ρ ρ1 As ls) (O : Own ρ1 a0 A0 w)
    (hpre : pre xx = A0 :: As) (hP : (post xx r).length = (A0 :: As).length) (hA : ret xx r = A) (hls : ls' = (0, a0) :: ls.map fun p => (p.1 + 1, p.2)) (fl : Fill ls' (post xx r) (w aN) ρo)
    (hst : starEach (e :: es) X.env = (false, eval e X.env) :: starEach es X.env := by rfl) (hpl : (backTo pos (starEach es X.env)).any (·.1) = false := by rfl)
    (ht : eval (.Call (.Attribute o x apos) (e :: es) [] pos) X.env = (do
      let ov ← eval o X.env
      standAt apos.atName
      let (f, first) ← holding [ov] (getMethod ov x pl)
      callWith pos f first (backTo pos (starEach (e :: es) X.env)) (backToKw pos (keywordEach [] X.env))) := by rfl) :
    XE X (.Call (.Attribute o x apos) (e :: es) [] pos) ρ ρo A := fun E T t σ H l st Q kk => by
  subst hA
  obtain ⟨f, fd, ps, F, h1, h2⟩ := M.ex
  refine wE.of (pe_meth (E := fun _ _ _ => False) peS cl h1 F hr h2 .nil pass0 paS hst hpl ht) (ho E T t σ H l st _ fun u H1 st1 => ?_)
  obtain ⟨G, Fa, Fv, fr, cs, e0, _⟩ := ST.one st1
  subst e0
  obtain ⟨F1, F2, e1, ⟨p, dx, vs, F', e2, e3, h3, hl, c1⟩, go⟩ := O0.get l cs
  refine ⟨p, dx, _, e2, h3, lookup_no hn, ha E T t σ H1 l (ST.pop st1) _ fun vs H2 hl hv st2 => ?_⟩
  rw [List.append_nil]
  exact fill_core (XE' := fun _ _ _ => False) l (by simp [hl]) (self_lend l hl st2 O) (self_ls hv hls) hm hpre hP fl kk
theorem xe_methX0 {k : Nat} {ρo : Cl} {pl : Sem Bool} (M : CalM X.prog X.w X.K X.mg X.base k C x (SpM pre m post ret)) (cl : Cls X.K C) (hn : x ∉ ns) (hr : Room k X.A) (hm : m xx = some r) (ho : XE X o ρ ρ (aV a0)) (O0 : Own ρ a0 (aObj C ns As0) w0) (O : Own ρ a0 A0 w)
    (hpre : pre xx = [A0]) (hP : (post xx r).length = 1) (hA : ret xx r = A) (fl : Fill [(0, a0)] (post xx r) (w aN) ρo)
    (ht : eval (.Call (.Attribute o x apos) [] [] pos) X.env = (do
      let ov ← eval o X.env
      standAt apos.atName
      let (f, first) ← holding [ov] (getMethod ov x pl)
      callWith pos f first (backTo pos (starEach [] X.env)) (backToKw pos (keywordEach [] X.env))) := by rfl) :
    XE X (.Call (.Attribute o x apos) [] [] pos) ρ ρo A := fun E T t σ H l st Q kk => by
  subst hA
  obtain ⟨f, fd, ps, F, h1, h2⟩ := M.ex
  refine wE.of (pe_meth0 (E := fun _ _ _ => False) peS cl h1 F hr h2 .nil pass0 ht) (ho E T t σ H l st _ fun u H1 st1 => ?_)
  obtain ⟨G, Fa, Fv, fr, cs, e0, _⟩ := ST.one st1
  subst e0
  obtain ⟨F1, F2, e1, ⟨p, dx, vs, F', e2, e3, h3, hl, c1⟩, go⟩ := O0.get l cs
  refine ⟨p, dx, _, e2, h3, lookup_no hn, ?_⟩
  exact fill_core (XE' := fun _ _ _ => False) (As := [A0]) (vs := [u]) l rfl (self_lend (As := []) (vs := []) l rfl (ST.pop st1) O) (fun p hp => by rw [List.mem_singleton.mp hp]; rfl) hm hpre hP fl kk
end
section
variable {X : Cx} {ρ ρ1 ρx : Cl} {e o : Expr} {es : List Expr} {pos p apos : Pos} {A A0 B : OA} {As As0 : List OA} {ls ls' : List (Nat × V)} {δ ζ : Type} {pre : δ → List OA} {mz : δ → Option ζ} {post : δ → ζ → Cl} {a0 : V} {w w0 : OA → Cl} {C : Addr} {ns : List Str} {x : Str} {xx : δ} {z : ζ} {W : WX} {cz : Value}
end
end Mr

namespace Mr
open PySem PySem.Spec PyProof.Rows L2
section
variable {X : Cx} {ρ ρ1 ρ2 ρ' : Cl} {a b e o iter tg : Expr} {pos p apos cpos : Pos} {v0 : V} {w : OA → Cl} {w2 : Obj → List (Key × V) → OA → Cl} {α : Type} [Cd α] {kvs : List (Int × α)} {k : Int} {x : α} {A B : OA} {kvd : List (Int × PyData)}
end
section
variable {K : PySem.W.Frag} {α : Type} [Cd α] {ρ : Cl} {v0 : V} {w : OA → Cl}
end
section
variable {X : Cx} {ρ : Cl} {a b b2 : Expr} {pos p2 : Pos} {v0 : V} {α : Type} [Cd α]
end
end Mr

namespace Mr
open PySem PySem.Spec PyProof.Rows L2
section
variable {X : Cx} {ω : Type} {ρ ρ1 ρ2 ρ' : Cl} {A B : OA} {a b e o : Expr} {As Bs : List OA} {a0 : V} {c : List OA → OA} {w : OA → Cl} {k0 : Bool}
end
section
variable {X : Cx} {ρ ρ1 ρ2 ρx ρ' : Cl} {A B : OA} {a b e o : Expr} {pos p apos cpos : Pos} {As Bs As0 : List OA} {a0 v0 : V} {w w0 : OA → Cl} {W : WX} {cz : Value} {α : Type}
theorem xe_itD {j : Nat} {n : Int} {d : PyData} (ha : XE X a ρ ρ1 (aV v0)) (hb : XE X b ρ1 ρ2 (aD X.K (.int n))) (O : Own ρ2 v0 (aL As) w) (hn : ixN As.length n = some j) (h : As[j]? = some (aD X.K d)) (hs : PlainIx b := by exact fun _ _ => rfl) :
    XE X (.Subscript a b pos) ρ ρ2 (aD X.K d) := fun E T t σ H l st Q k =>
  wE.of (pe_ix ix_seq peS peS hs) (ha E T t σ H l st _ fun x H1 st1 => hb E (_ :: T) (_ :: t) σ H1 (by simp [l]) st1 _ fun y H2 st2 => by
    obtain ⟨G, F, Fv, Fw, f, cs, ⟨q1, _⟩, q2, _⟩ := ST.two st2
    cases q2
    obtain ⟨F1, F2, e1, ⟨p, vs, F', e4, e5, h1, c1⟩, go⟩ := O.get l cs
    subst q1 e4
    obtain ⟨w', hw, hq⟩ := c1.getD h
    have hl : vs.length = As.length := by simpa using c1.len.symm
    exact .inl ⟨p, vs, n, w', rfl, rfl, .inl (.inl h1), by unfold atI; rw [hl, hn]; exact hw, k w' H2 (ST.put f cs hq)⟩)
end
section
variable {X : Cx} {ρ ρ1 ρ2 : Cl} {o e : Expr} {v0 : V} {p pos kpos : Pos} {w : OA → Cl} {α : Type} [Cd α] {kvs : List (Int × α)}
end
end Mr

namespace Mr
open PySem PySem.Spec PyProof.Rows L2
def gNms : List Nat → TGs
  | [] => gNil
  | i :: is => gCons (gName i) (gNms is)
def setD (K : PySem.W.Frag) (ρ : Cl) : List Nat → List PyData → Cl
  | i :: is, d :: ds => setD K (ρ.set i (some (aD K d))) is ds
  | _, _ => ρ
def setN (ρ : Cl) : List Nat → Cl
  | [] => ρ
  | i :: is => setN (ρ.set i none) is
theorem wipe_set {σ : L2.St} {i : Nat} {x : Option V} : ∀ {is : List Nat}, i ∈ is → wipe (σ.set i x) is = wipe σ is
  | j :: js, h => by
    show (wipe (σ.set i x) js).set j none = (wipe σ js).set j none
    by_cases q : i ∈ js
    · rw [wipe_set q]
    · have e : i = j := by
        rcases List.mem_cons.mp h with e | e
        · exact e
        · exact absurd e q
      subst e
      have key : ∀ (ks : List Nat), i ∉ ks → wipe (σ.set i x) ks = (wipe σ ks).set i x := fun ks => by
        induction ks with
        | nil => intro _; rfl
        | cons k ks ih =>
          intro hk
          show (wipe (σ.set i x) ks).set k none = ((wipe σ ks).set k none).set i x
          rw [ih (fun z => hk (List.mem_cons_of_mem _ z)), List.set_comm _ _ (fun z : i = k => hk (by rw [z]; exact List.mem_cons_self))]
      rw [key js q, set_set]
theorem tgs_names {E : Ent} {K : PySem.W.Frag} {T : Cl} {t : L2.St} {is0 : List Nat} {σ0 : L2.St} (l : T.length = t.length) {H : Hp} {P : L2.St → Hp → Prop} : ∀ (is : List Nat) (ds : List PyData) (vs : List V) (ρ : Cl) (σ : L2.St), (∀ i ∈ is, i ∈ is0) → (∀ i ∈ is, i < ρ.length) → is.length = ds.length → vs.length = ds.length → wipe σ is0 = wipe σ0 is0 →
    ST E ((ds.map (aD K)).map some ++ (T ++ ρ)) (vs.map some ++ (t ++ σ)) H → (∀ σ2, ST E (T ++ setD K ρ is ds) (t ++ σ2) H → wipe σ2 is0 = wipe σ0 is0 → P σ2 H) → gNms is vs σ H P
  | [], [], [], ρ, σ, _, _, _, _, hw, st, k => ⟨rfl, k σ st hw⟩
  | [], _ :: _, _, _, _, _, _, h, _, _, _, _ => by simp at h
  | [], [], _ :: _, _, _, _, _, _, h, _, _, _ => by simp at h
  | _ :: _, [], _, _, _, _, _, h, _, _, _, _ => by simp at h
  | _ :: _, _ :: _, [], _, _, _, _, _, h, _, _, _ => by simp at h
  | i :: is, d :: ds, v :: vs, ρ, σ, hi, hl, h1, h2, hw, st, k => by
    refine ⟨v, vs, rfl, ?_⟩
    have st2 : ST E (((ds.map (aD K)).map some ++ T) ++ ρ.set i (some (aD K d))) ((vs.map some ++ t) ++ σ.set i (some v)) H := ST.assignT (T := (ds.map (aD K)).map some ++ T) (t := vs.map some ++ t) (by simp at h2; simp [l, h2]) (by simpa using st) (hl i (by simp))
    refine tgs_names l is ds vs (ρ.set i (some (aD K d))) (σ.set i (some v)) (fun j hj => hi j (by simp [hj])) (fun j hj => by rw [List.length_set]; exact hl j (by simp [hj])) (by simpa using h1) (by simpa using h2) ?_ (by simpa using st2) k
    rw [wipe_set (hi i (by simp)), hw]
theorem Cs.forgets {G H : Hp} {T : Cl} {t : L2.St} (l : T.length = t.length) : ∀ {is : List Nat} {ρ : Cl} {σ : L2.St} {F : List Addr}, Cs G H (T ++ ρ) (t ++ σ) F → ∃ F', F'.Sublist F ∧ Cs G H (T ++ setN ρ is) (t ++ σ) F'
  | [], ρ, σ, F, c => ⟨F, .refl _, c⟩
  | i :: is, ρ, σ, F, c => by
    obtain ⟨F1, s1, c1⟩ := c.forgetT (i := i) (x := none) l
    have c2 : Cs G H (T ++ ρ.set i none) (t ++ σ) F1 := by
      by_cases q : i < ρ.length
      · exact c1.freeT l (List.getElem?_set_self q)
      · have e1 : ρ.set i none = ρ := List.set_eq_of_length_le (by omega)
        have hl : ρ.length = σ.length := by have := c.len; simp [l] at this; exact this
        have e2 : σ.set i none = σ := List.set_eq_of_length_le (by omega)
        rw [e1, e2] at c1
        rw [e1]
        exact c1
    obtain ⟨F2, s2, c3⟩ := Cs.forgets l (is := is) c2
    exact ⟨F2, s2.trans s1, c3⟩
theorem Cs.agree {G H : Hp} : ∀ {ρ : Cl} {σ σ' : L2.St} {F : List Addr}, Cs G H ρ σ F → σ.length = σ'.length → (∀ (j : Nat) (A : OA), ρ[j]? = some (some A) → σ[j]? = σ'[j]?) → Cs G H ρ σ' F
  | [], [], [], _, c, _, _ => c
  | [], _ :: _, _, _, c, _, _ => c.elim
  | [], [], _ :: _, _, _, l, _ => by simp at l
  | none :: _, [], _, _, c, _, _ => c.elim
  | some _ :: _, [], _, _, c, _, _ => c.elim
  | _ :: _, _ :: _, [], _, _, l, _ => by simp at l
  | none :: ρ, x :: σ, y :: σ', F, c, l, h => Cs.agree (ρ := ρ) (σ := σ) (σ' := σ') c (by simpa using l) fun j A e => by simpa using h (j + 1) A (by simpa using e)
  | some A :: ρ, x :: σ, y :: σ', F, c, l, h => by
    obtain ⟨v, F1, F2, e1, e2, a, c⟩ := c
    have e : x = y := by simpa using h 0 A rfl
    exact ⟨v, F1, F2, e ▸ e1, e2, a, Cs.agree c (by simpa using l) fun j A e => by simpa using h (j + 1) A (by simpa using e)⟩
theorem wipe_get {σ : L2.St} : ∀ {is : List Nat} {j : Nat}, j ∉ is → (wipe σ is)[j]? = σ[j]?
  | [], _, _ => rfl
  | i :: is, j, h => by
    show ((wipe σ is).set i none)[j]? = _
    rw [List.getElem?_set_ne (fun z : i = j => h (by rw [z]; exact List.mem_cons_self)), wipe_get (fun z => h (List.mem_cons_of_mem _ z))]
theorem setN_get (ρ : Cl) : ∀ (is : List Nat) (j : Nat) (A : OA), (setN ρ is)[j]? = some (some A) → j ∉ is ∧ ρ[j]? = some (some A)
  | [], j, A, h => ⟨by simp, h⟩
  | i :: is, j, A, h => by
    obtain ⟨h1, h2⟩ := setN_get (ρ.set i none) is j A h
    by_cases q : i = j
    · subst q
      by_cases z : i < ρ.length
      · rw [List.getElem?_set_self z] at h2; cases h2
      · rw [List.getElem?_eq_none (by rw [List.length_set]; omega)] at h2; cases h2
    · rw [List.getElem?_set_ne q] at h2
      exact ⟨fun z => (List.mem_cons.mp z).elim (fun e => q e.symm) h1, h2⟩
theorem ST.rewipe {E : Ent} {T ρ : Cl} {t σ σ' : L2.St} {H : Hp} {is : List Nat} (l : T.length = t.length) (st : ST E (T ++ ρ) (t ++ σ) H) (hw : wipe σ is = wipe σ' is) : ST E (T ++ setN ρ is) (t ++ σ') H := by
  obtain ⟨G, F, f, c⟩ := st
  obtain ⟨F1, s1, c1⟩ := Cs.forgets l (is := is) c
  have hls : σ.length = σ'.length := by rw [← wipe_length σ is, ← wipe_length σ' is, hw]
  refine ⟨G, F1, f.less s1, c1.agree (by simp [hls]) fun j A e => ?_⟩
  by_cases q : j < T.length
  · rw [List.getElem?_append_left (by omega), List.getElem?_append_left (by omega)]
  · rw [List.getElem?_append_right (by omega)] at e
    rw [List.getElem?_append_right (by omega), List.getElem?_append_right (by omega)]
    obtain ⟨h1, h2⟩ := setN_get ρ is _ A e
    rw [← l, ← wipe_get (σ := σ) h1, ← wipe_get (σ := σ') h1, hw]
section
variable {X : Cx} {ρ ρ1 : Cl} {e tg iter elt c : Expr} {pos p tpos : Pos} {α δ : Type}
def XCT (X : Cx) (ts : List Expr) (kk : Nat) (tpos : Pos) (is : List Nat) (elt iter : Expr) (ifs : List Expr) (scope : Scope) (ρ ρ' : Cl) (A : OA) : Prop := ∃ (tt : TT) (te : TE), (∀ s0 H0 C cl fp, PTs (blkX X scope s0 H0 C cl fp) ifs tt) ∧ (∀ s0 H0 C cl fp, PE (blkX X scope s0 H0 C cl fp) elt te) ∧
  ∀ (E : Ent) (T : Cl) (t σ : L2.St) (H : Hp), T.length = t.length → ST E (T ++ ρ) (t ++ σ) H → ∀ Q : VK, (∀ v H', ST E (some A :: (T ++ ρ')) (some v :: (t ++ σ)) H' → Q v H') → tLc (wI X (.Tuple ts kk tpos) iter) (gTup X.K is.length (gNms is)) tt te is σ H Q
variable {scope : Scope} {ts : List Expr} {kk : Nat} {is : List Nat}
theorem lc_coreT {Ok : Cl → Prop} {xs : List α} {dv : α → List PyData} {tb : α → Option Bool} {fe : α → Option δ} {el : δ → OA} {E E' : Ent} {T : Cl} {t σ : L2.St} {H1 : Hp} {D : Addr} {J : It} {tt : TT} {te : TE} {Qd : Hp → Prop} {r : List δ × Unit} {N : Cl}
    (l : T.length = t.length) (hr : compG (fun _ x => tb x) (fun _ x => (fe x).map fun y => (y, ())) xs () [] = some r) (hz : xs.length ≤ 1000000) (hD : H1 D = none) (st : ST E' (T ++ ρ1) (t ++ σ) H1) (gv : Gives J E' Ok xs (fun x => aD X.K (.tuple (dv x)))) (eN : N = setN ρ1 is) (hok : Ok N) (hN : ∀ i ∈ is, i < N.length) (hNN : setN N is = N) (hlen : ∀ x, (dv x).length = is.length)
    (ht : ∀ x k, tb x = some k → ∀ (T : Cl) (t σ : L2.St) (H : Hp), T.length = t.length → ST E' (T ++ setD X.K N is (dv x)) (t ++ σ) H → ∀ Q : Bool → Hp → Prop, (∀ H', ST E' (T ++ setD X.K N is (dv x)) (t ++ σ) H' → Q k H') → tt σ H Q)
    (he : ∀ x y, fe x = some y → ∀ (T : Cl) (t σ : L2.St) (H : Hp), T.length = t.length → ST E' (T ++ setD X.K N is (dv x)) (t ++ σ) H → ∀ Q : VK, (∀ v H', ST E' (some (el y) :: (T ++ setD X.K N is (dv x))) (some v :: (t ++ σ)) H' → Q v H') → te σ H Q)
    (hsD : ∀ x, setN (setD X.K N is (dv x)) is = N)
    (hd : ∀ H', ST E' (some (pin (.ref D) (aL (r.1.map el))) :: (T ++ N)) (some (.ref D) :: (t ++ σ)) H' → Qd H') :
    ∃ W : Nat → Nat → Hp → Prop, (∃ m, W 0 m (upd H1 D (.lst []))) ∧ ∀ n m H, W n m H →
      (J.stop n H ∧ Qd H) ∨ (J.go n H ∧ ∃ Nx : Hp → Prop, (∀ H', Nx H' → ∃ m', m' < m ∧ W (n + 1) m' H') ∧ ∀ x H', J.yld n H x H' → gTup X.K is.length (gNms is) x (wipe σ is) H' fun σ2 H2 => wipe σ2 is = wipe σ is ∧ tt σ2 H2 fun b H3 =>
        if b = true then te σ2 H3 fun y H4 => ∃ acc, H4 D = some (.lst acc) ∧ acc.length < sizeLine ∧ Nx (upd H4 D (.lst (acc ++ [y]))) else Nx H3) := by
  have ww : ∀ σ : L2.St, wipe (wipe σ is) is = wipe σ is := fun σ => by
    refine List.ext_getElem? fun j => ?_
    by_cases q : j ∈ is
    · have : ∀ (is : List Nat) (σ : L2.St), j ∈ is → j < σ.length → (wipe σ is)[j]? = some none := fun is => by
        induction is with
        | nil => intro σ h; simp at h
        | cons i is ih =>
          intro σ h hl
          show ((wipe σ is).set i none)[j]? = _
          by_cases z : i = j
          · subst z
            rw [List.getElem?_set_self (by rw [wipe_length]; exact hl)]
          · rw [List.getElem?_set_ne z]
            exact ih σ ((List.mem_cons.mp h).elim (fun e => absurd e.symm z) id) hl
      by_cases hl : j < σ.length
      · rw [this is _ q (by rw [wipe_length]; exact hl), this is _ q hl]
      · rw [List.getElem?_eq_none (by rw [wipe_length, wipe_length]; omega), List.getElem?_eq_none (by rw [wipe_length]; omega)]
    · rw [wipe_get q]
  subst eN
  refine ⟨fun n m H => m = xs.length - n ∧ n ≤ xs.length ∧ ∃ acc, acc.length ≤ n ∧ compG (fun _ x => tb x) (fun _ x => (fe x).map fun y => (y, ())) (xs.drop n) () acc = some r ∧ ST E' (some (pin (.ref D) (aL (acc.map el))) :: (T ++ setN ρ1 is)) (some (.ref D) :: (t ++ σ)) H, ⟨xs.length, by simp, Nat.zero_le _, [], Nat.le_refl _, by simpa using hr, ?_⟩, ?_⟩
  · obtain ⟨G, F, f, c⟩ := ST.rewipe l st (is := is) rfl
    obtain ⟨f1, keep⟩ := f.step (Fa := []) (Fr := F) (by simp) (Frm.alloc (o := .lst []) f.gh hD)
    exact ⟨G, [D] ++ F, f1, .ref D, [D], F, rfl, rfl, ⟨rfl, D, [], [], rfl, rfl, upd_same, rfl⟩, c.mono (.refl _) f1.gh keep⟩
  · rintro n m H ⟨rfl, hn, acc, hacc, hf, st⟩
    have l' : (some (pin (V.ref D) (aL (acc.map el))) :: T).length = (some (V.ref D) :: t).length := by simp [l]
    by_cases hlt : n < xs.length
    · have ed : xs.drop n = xs[n] :: xs.drop (n + 1) := List.drop_eq_getElem_cons hlt
      rw [ed] at hf
      refine .inr ⟨gv.go n hlt (_ :: T) (_ :: t) _ _ _ l' hok st, fun H' => ∃ acc', acc'.length ≤ n + 1 ∧ compG (fun _ x => tb x) (fun _ x => (fe x).map fun y => (y, ())) (xs.drop (n + 1)) () acc' = some r ∧ ST E' (some (pin (.ref D) (aL (acc'.map el))) :: (T ++ setN ρ1 is)) (some (.ref D) :: (t ++ σ)) H',
        fun H' ⟨acc', q0, q1, q2⟩ => ⟨xs.length - (n + 1), by omega, rfl, hlt, acc', q0, q1, q2⟩, fun v H' y => ?_⟩
      have st1 := gv.yld n xs[n] v H H' (List.getElem?_eq_getElem hlt) (_ :: T) (_ :: t) _ _ l' hok st y
      have st1 : ST E' ((some (aD X.K (.tuple (dv xs[n]))) :: (some (pin (.ref D) (aL (acc.map el))) :: T)) ++ setN (setN ρ1 is) is) ((some v :: some (.ref D) :: t) ++ wipe σ is) H' := ST.rewipe (T := some (aD X.K (.tuple (dv xs[n]))) :: some (pin (.ref D) (aL (acc.map el))) :: T) (t := some v :: some (.ref D) :: t) (by simp [l]) st1 (ww σ).symm
      rw [hNN] at st1
      obtain ⟨a, vs, e1, h1, h2, st2⟩ := ST.untup st1
      refine ⟨a, vs, e1, h1, h2.trans (hlen _), ?_⟩
      refine tgs_names (E := E') (K := X.K) (T := some (pin (.ref D) (aL (acc.map el))) :: T) (t := some (.ref D) :: t) (is0 := is) (σ0 := wipe σ is) l' is (dv xs[n]) vs (setN ρ1 is) (wipe σ is) (fun i hi => hi) hN (hlen _).symm h2 rfl st2 fun σ2 st3 hw => ?_
      have hw2 : wipe σ2 is = wipe σ is := by rw [hw, ww]
      refine ⟨hw2, ?_⟩
      have hf : ((tb xs[n]).bind fun b => if b = true then ((fe xs[n]).map fun y => (y, ())).bind fun o => compG (fun _ x => tb x) (fun _ x => (fe x).map fun y => (y, ())) (xs.drop (n + 1)) o.2 (acc ++ [o.1]) else compG (fun _ x => tb x) (fun _ x => (fe x).map fun y => (y, ())) (xs.drop (n + 1)) () acc) = some r := hf
      have back : ∀ {acc' : List δ} {H' : Hp}, ST E' (some (pin (.ref D) (aL (acc'.map el))) :: (T ++ setD X.K (setN ρ1 is) is (dv xs[n]))) (some (.ref D) :: (t ++ σ2)) H' → ST E' (some (pin (.ref D) (aL (acc'.map el))) :: (T ++ setN ρ1 is)) (some (.ref D) :: (t ++ σ)) H' := fun {acc' H'} st => by
        have q := ST.rewipe (T := some (pin (.ref D) (aL (acc'.map el))) :: T) (t := some (.ref D) :: t) (σ' := σ) (by simp [l]) st hw2
        rw [hsD] at q
        exact q
      cases hb : tb xs[n] with
      | none => rw [hb] at hf; cases hf
      | some b =>
        rw [hb] at hf
        refine ht xs[n] b hb (_ :: T) (_ :: t) _ H' l' st3 _ fun H2 st4 => ?_
        cases b with
        | false => exact ⟨acc, by omega, hf, back st4⟩
        | true =>
          cases hfe : fe xs[n] with
          | none => rw [hfe] at hf; cases hf
          | some o =>
            rw [hfe] at hf
            refine he xs[n] o hfe (_ :: T) (_ :: t) _ H2 l' st4 _ fun yv H3 st5 => ?_
            obtain ⟨p, vs', e1, h2, hl, go⟩ := ST.modL (T := []) (t := []) (i := 0) rfl st5 rfl
            cases e1
            have hsz : vs'.length < sizeLine := by
              rw [hl, List.length_map]
              exact Nat.lt_of_le_of_lt hacc (Nat.lt_of_lt_of_le hlt (Nat.le_trans hz (by decide)))
            refine ⟨vs', h2, hsz, acc ++ [o], by simp; omega, hf, back ?_⟩
            exact go ((acc ++ [o]).map el) (vs' ++ [yv]) fun G H F1 F2 c q => ⟨F1 ++ F2, fun b hb => hb, fun n => n, by simpa using c.append (Cs.ofNil q)⟩
    · have e : n = xs.length := by omega
      subst e
      rw [List.drop_length] at hf
      cases hf
      exact .inl ⟨gv.stop (_ :: T) (_ :: t) _ _ _ l' hok st, hd H st⟩
theorem xct_mapO {Ok : Cl → Prop} {xs : List α} {dv : α → List PyData} {f : α → Option δ} {el : δ → OA} {ys : List δ} {N : Cl} (hm : mapO f xs = some ys) (hx : XI X (.Tuple ts kk tpos) iter ρ ρ1 Ok xs (fun x => aD X.K (.tuple (dv x)))) (eN : setN ρ1 is = N) (hok : Ok N) (hN : ∀ i ∈ is, i < N.length) (hNN : setN N is = N) (hlen : ∀ x, (dv x).length = is.length) (hsD : ∀ x, setN (setD X.K N is (dv x)) is = N)
    (he : ∀ s0 H0 C cl fp x, XEm (blkX X scope s0 H0 C cl fp) elt (setD X.K N is (dv x)) (f x) (fun _ => setD X.K N is (dv x)) el) :
    XCT X ts kk tpos is elt iter [] scope ρ N (aL (ys.map el)) := by
  refine ⟨tYes, wEc X scope elt, fun _ _ _ _ _ => pts_nil, fun s0 H0 C cl fp => ⟨fun pins s σ H Q I h => h s0 H0 C cl fp pins s I⟩, fun E T t σ H l st Q k => ?_⟩
  obtain ⟨hz, hm1⟩ := mapO_eq hm
  refine hx E T t σ H l st _ fun J E' H' lt st' gv => ?_
  intro D hD
  exact lc_coreT (X := X) (E := E) (te := wEc X scope elt) (tt := tYes) (ρ1 := ρ1) (N := N) (el := el) (tb := fun _ => some true) (fe := f) l (compG_map hm1) hz hD st' gv eN.symm hok hN hNN hlen
    (fun x k hk T t σ H l st Q q => by cases hk; exact q H st)
    (fun x y hf T t σ H l st Q q s0 H0 C cl fp => he s0 H0 C cl fp x y hf E' T t σ H l st Q q) hsD
    fun H2 st2 => k _ _ (lt _ _ _ (by
      obtain ⟨G, F, f, v, F1, F2, e1, e2, ⟨_, a⟩, c⟩ := st2
      cases e1
      exact ⟨G, F, f, _, F1, F2, rfl, e2, a, c⟩))
end
end Mr

namespace Mr
open PySem PySem.Spec PyProof.Rows L2
section
variable {X : Cx} {ρ ρ1 : Cl} {kx vx iter : Expr} {pos p : Pos} {α β : Type} [Cd β] {scope : Scope} {x : Str}
end
section
variable {X : Cx} {ρ ρ' : Cl} {elt iter : Expr} {ts : List Expr} {kk : Nat} {tpos : Pos} {ifs : List Expr} {scope : Scope} {pos : Pos}
theorem xg_asgLcT {j : Nat} {A : OA} {own : List (Str × Nat)} {y : Str} {py spos : Pos} {ω : Type} {rest : List Stmt} {m : Option ω} {Φ : ω → Ent → Ends → Prop} (h : XCT X ts kk tpos (own.map (·.2)) elt iter ifs scope ρ ρ' A) (hy : X.N[j]? = some y) (hyl : X.env.scope.names.lookup y = some .local)
    (hsw : swapsWith (.ListComp elt [⟨.Tuple ts kk tpos, iter, ifs, 0⟩] scope pos) (some (.Name y py)) spos.line X.env = pure true) (k : XG X rest (ρ'.set j (some A)) m Φ) (hl : j < ρ'.length) (hc : X.calm = true) (hN : X.N.Nodup) (ok : BlkOk X.N X.env.scope scope own) (hg : ∀ s0 H0 C cl fp, PGs (blkX X scope s0 H0 C cl fp) ts (gNms (own.map (·.2))))
    (hn : ∀ s0 H0 C cl fp, (assignEach ts (blkX X scope s0 H0 C cl fp).env).length = (own.map (·.2)).length := by intros; rfl) (hst : ∀ s0 H0 C cl fp, (assignEach ts (blkX X scope s0 H0 C cl fp).env).findIdx? (·.1) = none := by intros; rfl) (hs : ∀ x, foldedSetIterable iter X.env x = pure x := by intro _; rfl) :
    XG X (.Assign [.Name y py] (.ListComp elt [⟨.Tuple ts kk tpos, iter, ifs, 0⟩] scope pos) spos :: rest) ρ m Φ := fun o ho E σ H D st q => by
  obtain ⟨tt, te, h1, h2, h3⟩ := h
  exact wS.of (pss_cons (ps_setLc (own := own) hc hN hy hyl hsw piS ok (fun s H C cl fp => pg_tup (X := blkX X scope s H C cl fp) hc (hg s H C cl fp) (hn s H C cl fp) (hst s H C cl fp)) h1 h2 hs) pssS) (h3 E [] [] σ H rfl st _ fun v H' st1 => k o ho E _ H' D (ST.assign st1 hl) q)
theorem xct_frz {is : List Nat} {ds : List PyData} (h : XCT X ts kk tpos is elt iter ifs scope ρ ρ' (aLD X.K ds)) : XCT X ts kk tpos is elt iter ifs scope ρ ρ' (aD X.K (.list ds)) := by
  obtain ⟨tt, te, h1, h2, h3⟩ := h
  refine ⟨tt, te, h1, h2, fun E T t σ H l st Q k => h3 E T t σ H l st Q fun v H' st1 => ?_⟩
  obtain ⟨G, F, f, w, F1, F2, e1, e2, ⟨p, vs, F', e3, e4, h1, c1⟩, cs⟩ := st1
  obtain ⟨q1, q2⟩ := csD c1
  cases e1
  subst e2 e3 e4 q2
  have g : G p = none := f.dis p (by simp)
  obtain ⟨f1, st⟩ := f.step (Fa := [p]) (Fr := F2) (by simp) (Frm.freeze f.gh g h1)
  exact k _ _ ⟨_, _, f1, .ref p, [], F2, rfl, rfl, ⟨.lst upd_same (DqAll.mono (.new g) _ _ q1), rfl⟩, by simpa using cs.mono (.new g) f1.gh st⟩
end
theorem xct_imp {X : Cx} {ρ ρ' : Cl} {elt iter : Expr} {ts : List Expr} {kk : Nat} {tpos : Pos} {is : List Nat} {ifs : List Expr} {scope : Scope} {A B : OA} (h : XCT X ts kk tpos is elt iter ifs scope ρ ρ' A) (e : A = B) : XCT X ts kk tpos is elt iter ifs scope ρ ρ' B := e ▸ h
abbrev I3 := T3 Int Int Int
def le3 (x y : I3) : Prop := x.a < y.a ∨ (x.a = y.a ∧ (x.b < y.b ∨ (x.b = y.b ∧ x.c ≤ y.c)))
instance (x y : I3) : Decidable (le3 x y) := by unfold le3; exact inferInstance
def Ok3 (xs : List I3) : Prop := xs.length < 64 ∧ ∀ x ∈ xs, (0 ≤ x.a ∧ x.a < 2 ^ 62) ∧ (0 ≤ x.b ∧ x.b < 2 ^ 62) ∧ (0 ≤ x.c ∧ x.c < 2 ^ 62)
instance (xs : List I3) : Decidable (Ok3 xs) := by unfold Ok3; exact inferInstance
theorem dq_perm {K : PySem.W.Frag} {G : Hp} {α : Type} [Cd α] : ∀ {ys xs : List V}, ys.Perm xs → ∀ {ts : List α}, DqAll K G xs (ts.map Cd.d) → ∃ us : List α, us.Perm ts ∧ DqAll K G ys (us.map Cd.d) := fun {ys xs} p => by
  induction p with
  | nil => intro ts h; exact ⟨ts, .refl _, h⟩
  | cons x _ ih =>
    intro ts h
    cases ts with
    | nil => cases h
    | cons t ts =>
      cases h with
      | cons h1 h2 =>
        obtain ⟨us, e1, e2⟩ := ih h2
        exact ⟨t :: us, e1.cons t, .cons h1 e2⟩
  | swap x y l =>
    intro ts h
    match ts, h with
    | [], h => cases h
    | [_], h => cases h with | cons h1 h2 => cases h2
    | t :: u :: ts, h =>
      cases h with
      | cons h1 h2 =>
        cases h2 with
        | cons h3 h4 => exact ⟨u :: t :: ts, List.Perm.swap t u ts, .cons h3 (.cons h1 h4)⟩
  | trans _ _ ih1 ih2 =>
    intro ts h
    obtain ⟨us, e1, e2⟩ := ih2 h
    obtain ⟨ws, e3, e4⟩ := ih1 e2
    exact ⟨ws, e3.trans e1, e4⟩
section
variable {X : Cx} {ρ ρ1 : Cl} {a : Expr} {p pos : Pos} {A : OA}
end
end Mr

namespace Mr
open PySem PySem.Spec PyProof.Rows L2
inductive KvO (G H : Hp) : List (Key × V) → List (Int × OA) → List Addr → Prop
  | nil : KvO G H [] [] []
  | cons {k : Int} {v : V} {A : OA} {ws : List (Key × V)} {es : List (Int × OA)} {F1 F2 : List Addr} : A.P G H v F1 → KvO G H ws es F2 → KvO G H ((Sum.inl k, v) :: ws) ((k, A) :: es) (F1 ++ F2)
def dOset {α : Type} (es : List (Int × α)) (k : Int) (A : α) : List (Int × α) := es.map fun p => if p.1 = k then (p.1, A) else p
section
variable {α : Type} {f : α → OA} {es kvs : List (Int × α)} {k : Int} {A B x y : α}
theorem dOset_no (h : k ∉ es.map (·.1)) : dOset es k A = es := by
  unfold dOset
  have : ∀ p ∈ es, (if p.1 = k then (p.1, A) else p) = p := fun p hp => by
    by_cases q : p.1 = k
    · exact absurd (List.mem_map.mpr ⟨p, hp, q⟩) h
    · rw [if_neg q]
  rw [List.map_congr_left (g := id) this, List.map_id]
theorem dGet_cons_pos {p : Int × α} (h : p.1 = k) : dGet (p :: es) k = some p.2 := by simp [dGet, List.find?_cons, h]
theorem dGet_cons_neg {p : Int × α} (h : ¬ p.1 = k) : dGet (p :: es) k = dGet es k := by simp [dGet, List.find?_cons, h]
theorem dGet_no : dGet es k = none ↔ k ∉ es.map (·.1) := by
  induction es with
  | nil => simp [dGet]
  | cons p es ih =>
    by_cases q : p.1 = k
    · rw [dGet_cons_pos q]
      simp [q]
    · rw [dGet_cons_neg q, ih]
      have q' : ¬ k = p.1 := fun e => q e.symm
      simp [q']
theorem dOset_same (nd : (es.map (·.1)).Nodup) (h : dGet es k = some A) : dOset es k A = es := by
  induction es with
  | nil => rfl
  | cons p es ih =>
    obtain ⟨n1, n2⟩ := List.nodup_cons.mp nd
    show (if p.1 = k then (p.1, A) else p) :: dOset es k A = _
    by_cases q : p.1 = k
    · rw [dGet_cons_pos q] at h
      have : p.2 = A := by simpa using h
      rw [if_pos q, dOset_no (by rw [← q]; exact n1), ← this]
    · rw [dGet_cons_neg q] at h
      rw [if_neg q, ih n2 h]
theorem dPut_has (h : dGet es k ≠ none) : dPut es k A = dOset es k A := by
  unfold dPut dOset
  rw [if_pos]
  cases e : es.any fun kv => decide (kv.1 = k) with
  | true => rfl
  | false =>
    exact absurd (dGet_no.mpr fun z => by
      obtain ⟨p, hp, e2⟩ := List.mem_map.mp z
      have := (List.any_eq_false.mp e) p hp
      simp [e2] at this) h
theorem dPut_new (h : dGet es k = none) : dPut es k A = es ++ [(k, A)] := by
  unfold dPut
  rw [if_neg]
  intro e
  obtain ⟨p, hp, e2⟩ := List.any_eq_true.mp e
  exact dGet_no.mp h (List.mem_map.mpr ⟨p, hp, by simpa using e2⟩)
end
namespace KvO
variable {G H G' H' : Hp}
theorem mono (e : Ex G G') (e' : Ex G' H') : ∀ {ws : List (Key × V)} {es : List (Int × OA)} {F : List Addr}, KvO G H ws es F → (∀ b ∈ F, ∀ o, H b = some o → H' b = some o) → KvO G' H' ws es F
  | _, _, _, .nil, _ => .nil
  | _, _, _, .cons (A := A) h t, k => .cons (A.mono h e e' fun b hb => k b (List.mem_append_left _ hb)) (t.mono e e' fun b hb => k b (List.mem_append_right _ hb))
theorem len : ∀ {ws : List (Key × V)} {es : List (Int × OA)} {F : List Addr}, KvO G H ws es F → ws.length = es.length
  | _, _, _, .nil => rfl
  | _, _, _, .cons _ t => congrArg (· + 1) t.len
theorem keys : ∀ {ws : List (Key × V)} {es : List (Int × OA)} {F : List Addr}, KvO G H ws es F → ws.map (·.1) = (dKeys es).map Sum.inl
  | _, _, _, .nil => rfl
  | _, _, _, .cons _ t => by
    rw [List.map_cons, t.keys]
    rfl
theorem has {k : Int} : ∀ {ws : List (Key × V)} {es : List (Int × OA)} {F : List Addr}, KvO G H ws es F → (valV ws (Sum.inl k)).isSome = dHas es k
  | _, _, _, .nil => rfl
  | _, _, _, .cons (k := k') (v := v) (A := A) (es := es) h t => by
    unfold dHas
    by_cases e : k' = k
    · subst e
      rw [valV_pos rfl, dGet_cons_pos (p := (k', A)) rfl]
      rfl
    · rw [valV_neg (fun q => e (Sum.inl.inj q)), dGet_cons_neg (p := (k', A)) e]
      exact t.has
theorem kid {k : Int} {A : OA} : ∀ {ws : List (Key × V)} {es : List (Int × OA)} {F : List Addr}, KvO G H ws es F → (es.map (·.1)).Nodup → dGet es k = some A →
    ∃ u F1 F2, valV ws (Sum.inl k) = some u ∧ F.Perm (F1 ++ F2) ∧ A.P G H u F1 ∧ ∀ {G' H' : Hp} {F1' : List Addr} {B : OA}, Ex G G' → Ex G' H' → (∀ b ∈ F2, ∀ o, H b = some o → H' b = some o) → B.P G' H' u F1' → ∃ F', F'.Perm (F1' ++ F2) ∧ KvO G' H' ws (dOset es k B) F'
  | _, _, _, .nil, _, h => by simp [dGet] at h
  | _, _, _, .cons (k := k') (v := v) (A := A') (ws := ws) (es := es) (F1 := Fa) (F2 := Fb) h t, nd, hg => by
    obtain ⟨n1, n2⟩ := List.nodup_cons.mp nd
    by_cases e : k' = k
    · rw [dGet_cons_pos (p := (k', A')) e] at hg
      have : A' = A := by simpa using hg
      subst this
      subst e
      refine ⟨v, Fa, Fb, valV_pos rfl, .refl _, h, fun {G' H' F1' B} e1 e2 kp pB => ⟨F1' ++ Fb, .refl _, ?_⟩⟩
      have e3 : dOset ((k', A') :: es) k' B = (k', B) :: es := by
        show (if k' = k' then (k', B) else (k', A')) :: dOset es k' B = _
        rw [if_pos rfl, dOset_no n1]
      rw [e3]
      exact .cons pB (t.mono e1 e2 kp)
    · rw [dGet_cons_neg (p := (k', A')) e] at hg
      obtain ⟨u, F1, F2, q1, q2, q3, go⟩ := t.kid n2 hg
      refine ⟨u, F1, Fa ++ F2, by rw [valV_neg (fun q => e (Sum.inl.inj q))]; exact q1, (List.Perm.append_left Fa q2).trans (by rw [← List.append_assoc, ← List.append_assoc]; exact List.Perm.append_right F2 List.perm_append_comm), q3, fun {G' H' F1' B} e1 e2 kp pB => ?_⟩
      obtain ⟨F', a, b⟩ := go e1 e2 (fun b hb => kp b (List.mem_append_right _ hb)) pB
      refine ⟨Fa ++ F', (List.Perm.append_left Fa a).trans (by rw [← List.append_assoc, ← List.append_assoc]; exact List.Perm.append_right F2 List.perm_append_comm), ?_⟩
      have e3 : dOset ((k', A') :: es) k B = (k', A') :: dOset es k B := by
        show (if k' = k then (k', B) else (k', A')) :: dOset es k B = _
        rw [if_neg e]
      rw [e3]
      exact .cons (A'.mono h e1 e2 fun b hb => kp b (List.mem_append_left _ hb)) b
theorem put {k : Int} {v : V} {ws : List (Key × V)} {es : List (Int × OA)} {F : List Addr} (h : KvO G H ws es F) (he : ∀ A, dGet es k = some A → A = pin v aN) (nd : (es.map (·.1)).Nodup) : KvO G H (putK ws (Sum.inl k) v) (dPut es k (pin v aN)) F := by
  cases e : dGet es k with
  | none =>
    have e2 : putK ws (Sum.inl k) v = ws ++ [(Sum.inl k, v)] := by
      unfold putK
      rw [if_neg]
      intro z
      obtain ⟨p, hp, e3⟩ := List.any_eq_true.mp z
      have : p.1 ∈ ws.map (·.1) := List.mem_map.mpr ⟨p, hp, rfl⟩
      rw [h.keys, of_decide_eq_true e3] at this
      obtain ⟨j, hj, e4⟩ := List.mem_map.mp this
      exact dGet_no.mp e (by rw [← Sum.inl.inj e4]; exact hj)
    rw [e2, dPut_new e]
    have snoc : ∀ {ws : List (Key × V)} {es : List (Int × OA)} {F : List Addr}, KvO G H ws es F → KvO G H (ws ++ [(Sum.inl k, v)]) (es ++ [(k, pin v aN)]) F := fun {ws es F} h => by
      induction h with
      | nil => exact .cons (F1 := []) (F2 := []) ⟨rfl, rfl⟩ .nil
      | cons a _ ih => exact .cons a ih
    exact snoc h
  | some A =>
    have eA := he A e
    subst eA
    rw [dPut_has (by rw [e]; simp), dOset_same nd e]
    obtain ⟨u, F1, F2, q1, q2, ⟨q3, _⟩, _⟩ := h.kid nd e
    subst q3
    have e2 : putK ws (Sum.inl k) u = ws := by
      have key : ∀ {ws : List (Key × V)} {es : List (Int × OA)} {F : List Addr}, KvO G H ws es F → (es.map (·.1)).Nodup → ∀ u, valV ws (Sum.inl k) = some u → (ws.map fun kv => if kv.1 = Sum.inl k then (kv.1, u) else kv) = ws := fun {ws es F} h => by
        induction h with
        | nil => intro _ _ _; rfl
        | @cons k' v' A' ws es F1 F2 a t ih =>
          intro nd u hu
          obtain ⟨n1, n2⟩ := List.nodup_cons.mp nd
          rw [List.map_cons]
          by_cases z : k' = k
          · subst z
            rw [valV_pos rfl] at hu
            have hu : v' = u := by simpa using hu
            subst hu
            rw [if_pos rfl]
            congr 1
            have : ∀ p ∈ ws, (if p.1 = Sum.inl k' then (p.1, v') else p) = p := fun p hp => by
              rw [if_neg]
              intro e5
              have : p.1 ∈ ws.map (·.1) := List.mem_map.mpr ⟨p, hp, rfl⟩
              rw [t.keys, e5] at this
              obtain ⟨j, hj, e4⟩ := List.mem_map.mp this
              exact n1 (by rw [← Sum.inl.inj e4]; exact hj)
            rw [List.map_congr_left (g := id) this, List.map_id]
          · rw [valV_neg (fun q => z (Sum.inl.inj q))] at hu
            rw [if_neg (fun q => z (Sum.inl.inj q)), ih n2 u hu]
      unfold putK
      rw [if_pos, key h nd u q1]
      refine List.any_eq_true.mpr ?_
      have : Sum.inl k ∈ ws.map (·.1) := by
        rw [h.keys]
        refine List.mem_map.mpr ⟨k, ?_, rfl⟩
        exact Classical.byContradiction fun n => by rw [dGet_no.mpr n] at e; cases e
      obtain ⟨p, hp, e5⟩ := List.mem_map.mp this
      exact ⟨p, hp, by rw [e5]; simp⟩
    rw [e2]
    exact h
theorem drop {k : Int} {v : V} : ∀ {ws : List (Key × V)} {es : List (Int × OA)} {F : List Addr}, KvO G H ws es F → (∀ p ∈ es, p.1 = k → p.2 = pin v aN) → KvO G H (dropK ws (Sum.inl k)) (dDel es k) F
  | _, _, _, .nil, _ => .nil
  | _, _, _, .cons (k := k') (v := v') (A := A) (ws := ws) (es := es) (F1 := F1) (F2 := F2) h t, hv => by
    have ih := t.drop (k := k) (v := v) fun p hp => hv p (by simp [hp])
    unfold dropK dDel at ih ⊢
    rw [List.filter_cons, List.filter_cons]
    by_cases e : k' = k
    · have := hv (k', A) (by simp) e
      have : A = pin v aN := this
      subst this
      have e1 : F1 = [] := h.2
      subst e1
      rw [if_neg (by simp [e]), if_neg (by simp [e])]
      exact ih
    · rw [if_pos (by simp [e]), if_pos (by simp [e])]
      exact .cons h ih
end KvO
section
variable {α : Type} {f : α → OA} {kvs kvs0 : List (Int × α)} {es es0 : List (Int × OA)} {k : Int} {x y x0 : α} {ρ ρ1 ρ2 : Cl} {a0 v0 u v : V} {A B : OA} {w w0 : OA → Cl}
end
section
variable {X : Cx} {α : Type} {f : α → OA} {kvs kvs0 : List (Int × α)} {es es0 : List (Int × OA)} {k : Int} {x y x0 : α} {ρ ρ1 ρ2 : Cl} {a0 v0 u v : V} {A B : OA} {w w0 : OA → Cl} {a b e o ce : Expr} {pos pos' p apos cpos : Pos} {ω : Type} {rest sts : List Stmt} {m : Option ω} {Φ : ω → Ent → Ends → Prop}
end
end Mr

namespace Mr
open PySem PySem.Spec PyProof.Rows L2
section
variable {X : Cx} {ρ ρ1 ρ2 ρ3 : Cl} {a b c e o : Expr} {pos p apos cpos : Pos} {A B : OA} {α : Type} [Cd α] {v0 : V} {w w0 : OA → Cl} {k : Int} {kvs kvs0 : List (Int × α)} {x : α}
end
section
variable {X : Cx} {ρ ρ1 : Cl} {pos : Pos} {As : List OA}
end
instance : Ce (Sm (Int × (List Int)) (Wd × Wd)) := ⟨fun x y => by
  cases x with
  | l x =>
    cases y with
    | l y =>
      show PyData.eqv (Cd.d x) (Cd.d y) = _
      rw [Ce.eqv]
      exact decide_eq_decide.mpr ⟨fun h => congrArg Sm.l h, fun h => by cases h; rfl⟩
    | r y =>
      show PyData.eqv (.tuple [.int _, .list _]) (.tuple [.str _, .str _]) = _
      rw [decide_eq_false (fun h => by cases h)]
      simp [PyData.eqv, PyData.eqvAll]
  | r x =>
    cases y with
    | l y =>
      show PyData.eqv (.tuple [.str _, .str _]) (.tuple [.int _, .list _]) = _
      rw [decide_eq_false (fun h => by cases h)]
      simp [PyData.eqv, PyData.eqvAll]
    | r y =>
      show PyData.eqv (Cd.d x) (Cd.d y) = _
      rw [Ce.eqv]
      exact decide_eq_decide.mpr ⟨fun h => congrArg Sm.r h, fun h => by cases h; rfl⟩⟩
section
variable {X : Cx} {ρ ρ1 : Cl} {o : Expr} {p pos : Pos} {α : Type} [Cd α] {kvs : List (Int × α)} {v0 : V} {w : OA → Cl}
end
section
variable {X : Cx} {ρ ρ1 : Cl} {pos : Pos} {As Bs : List OA} {v0 : V} {w : OA → Cl}
end
end Mr

namespace Mr
open PySem PySem.Spec PyProof.Rows L2
section
variable {X : Cx} {ρ ρ1 ρ2 : Cl} {a b e o : Expr} {pos pos' : Pos} {A B : OA} {As : List OA} {u v0 : V} {w : OA → Cl} {ks : List Str} {wd : Str} {d : PyData} {ω : Type} {rest : List Stmt} {m : Option ω} {Φ : ω → Ent → Ends → Prop}
end
section
variable {X : Cx} {ρ ρ1 ρ2 : Cl} {kx vx : Expr} {pos : Pos} {A : OA} {As : List OA} {keys : List (Option Expr)} {values : List Expr} {wd : Str} {wds : List Str}
end
end Mr

namespace Mr
open PySem PySem.Spec PyProof.Rows L2
section
variable {X : Cx} {ρ ρ1 : Cl} {a b : Expr} {pos : Pos} {α : Type} [Cd α]
end
section
variable {X : Cx} {ω : Type} {sts : List Stmt} {m : Option ω} {Φ : ω → Ent → Ends → Prop} {ρ : Cl} {A : OA} {v : V} {w : OA → Cl}
end
end Mr

namespace Mr
open PySem PySem.Spec PyProof.Rows L2
section
variable {X : Cx} {ζ : Type} {rest : List Stmt} {ρ ρx : Cl} {e o : Expr} {f : Str} {pos pos' : Pos} {W : WX} {cz : Value} {R : ζ → Cl}
end
end Mr

namespace Mr
open PySem PySem.Spec PyProof.Rows L2
def OwnW (W : OA → Cl) (v0 : V) : Prop := ∀ B, ∃ w, Own (W B) v0 B w ∧ ∀ B', w B' = W B'
theorem OwnW.get {W : OA → Cl} {v0 : V} (h : OwnW W v0) (B : OA) : Own (W B) v0 B (fun B' => W B') := by
  obtain ⟨w, O, e⟩ := h B
  have : w = fun B' => W B' := funext e
  rw [this] at O
  exact O
section
variable {X : Cx} {α β δ ω : Type} {rest body : List Stmt} {tg iter elt : Expr} {pos p : Pos} {m : Option ω} {Φ : ω → Ent → Ends → Prop} {ρ ρ1 : Cl} {v0 : V} {As : List OA} {w : OA → Cl} {f : α → OA} {xs : List α}
variable {scope : Scope} {x : Str}
end
end Mr

namespace Mr
open PySem PySem.Spec PyProof.Rows L2
abbrev I2 := Int × Int
def le2 (x y : I2) : Prop := x.1 < y.1 ∨ (x.1 = y.1 ∧ x.2 ≤ y.2)
instance (x y : I2) : Decidable (le2 x y) := by unfold le2; exact inferInstance
def ins2 (x : I2) : List I2 → List I2
  | [] => [x]
  | y :: ys => if le2 x y then x :: y :: ys else y :: ins2 x ys
def srt2 : List I2 → List I2
  | [] => []
  | x :: xs => ins2 x (srt2 xs)
theorem le2_total (x y : I2) (h : ¬ le2 x y) : le2 y x := by unfold le2 at *; omega
theorem le2_trans {x y z : I2} (h : le2 x y) (k : le2 y z) : le2 x z := by unfold le2 at *; omega
theorem le2_anti {x y : I2} (h : le2 x y) (k : le2 y x) : x = y := by
  obtain ⟨a, b⟩ := x
  obtain ⟨a', b'⟩ := y
  unfold le2 at *
  dsimp only at *
  have e1 : a = a' := by omega
  have e2 : b = b' := by omega
  rw [e1, e2]
theorem ins2_perm (x : I2) : ∀ ys : List I2, (ins2 x ys).Perm (x :: ys)
  | [] => .refl _
  | y :: ys => by
    unfold ins2
    by_cases h : le2 x y
    · rw [if_pos h]
    · rw [if_neg h]
      exact ((ins2_perm x ys).cons y).trans (List.Perm.swap x y ys)
theorem srt2_perm : ∀ xs : List I2, (srt2 xs).Perm xs
  | [] => .refl _
  | x :: xs => (ins2_perm x (srt2 xs)).trans ((srt2_perm xs).cons x)
theorem ins2_sorted (x : I2) : ∀ ys : List I2, ys.Pairwise le2 → (ins2 x ys).Pairwise le2
  | [], _ => by simp [ins2]
  | y :: ys, h => by
    obtain ⟨h1, h2⟩ := List.pairwise_cons.mp h
    unfold ins2
    by_cases q : le2 x y
    · rw [if_pos q]
      refine List.pairwise_cons.mpr ⟨fun z hz => ?_, h⟩
      rcases List.mem_cons.mp hz with e | e
      · exact e ▸ q
      · exact le2_trans q (h1 z e)
    · rw [if_neg q]
      refine List.pairwise_cons.mpr ⟨fun z hz => ?_, ins2_sorted x ys h2⟩
      rcases List.mem_cons.mp ((ins2_perm x ys).mem_iff.mp hz) with e | e
      · exact e ▸ le2_total x y q
      · exact h1 z e
theorem srt2_sorted : ∀ xs : List I2, (srt2 xs).Pairwise le2
  | [] => .nil
  | x :: xs => ins2_sorted x _ (srt2_sorted xs)
theorem sorted2_unique : ∀ {xs ys : List I2}, xs.Perm ys → xs.Pairwise le2 → ys.Pairwise le2 → xs = ys
  | [], ys, p, _, _ => List.Perm.nil_eq p
  | x :: xs, [], p, _, _ => by have := p.length_eq; simp at this
  | x :: xs, y :: ys, p, hx, hy => by
    obtain ⟨h1, h2⟩ := List.pairwise_cons.mp hx
    obtain ⟨h3, h4⟩ := List.pairwise_cons.mp hy
    have lr : ∀ z, le2 z z := fun z => by unfold le2; omega
    have e : x = y := by
      have a : x ∈ y :: ys := p.mem_iff.mp (by simp)
      have b : y ∈ x :: xs := p.mem_iff.mpr (by simp)
      refine le2_anti ?_ ?_
      · rcases List.mem_cons.mp b with e | e
        · exact e ▸ lr _
        · exact h1 y e
      · rcases List.mem_cons.mp a with e | e
        · exact e ▸ lr _
        · exact h3 x e
    subst e
    rw [sorted2_unique (List.Perm.cons_inv p) h2 h4]
def Ok2 (xs : List I2) : Prop := xs.length < 64 ∧ ∀ x ∈ xs, (0 ≤ x.1 ∧ x.1 < 2 ^ 62) ∧ (0 ≤ x.2 ∧ x.2 < 2 ^ 62)
instance (xs : List I2) : Decidable (Ok2 xs) := by unfold Ok2; exact inferInstance
theorem dq2 {K : PySem.W.Frag} {G H : Hp} (ex : Ex G H) {v : V} {t : I2} (h : Dq K G v (Cd.d t)) : TupI K H v [t.1, t.2] := by
  have h : Dq K G v (PyData.tuple [PyData.int t.1, PyData.int t.2]) := h
  cases h with
  | tup a1 a2 =>
    rename_i a xs
    refine ⟨a, rfl, ?_⟩
    have e : xs = [t.1, t.2].map V.int := dq_vints (xs := [t.1, t.2]) a2
    rw [← e]
    exact ex.st a1
theorem dq_pw2 {K : PySem.W.Frag} {G H : Hp} (ex : Ex G H) {R : List Int → List Int → Prop} : ∀ {ys : List V} {us : List I2}, DqAll K G ys (us.map Cd.d) → ys.Pairwise (fun x y => ∀ n m, TupI K H x n → TupI K H y m → R n m) → us.Pairwise (fun x y => R [x.1, x.2] [y.1, y.2])
  | _, [], _, _ => .nil
  | _, u :: us, h, p => by
    cases h with
    | cons h1 h2 =>
      obtain ⟨p1, p2⟩ := List.pairwise_cons.mp p
      refine List.pairwise_cons.mpr ⟨fun w hw => ?_, dq_pw2 ex h2 p2⟩
      obtain ⟨i, hi⟩ := List.mem_iff_getElem?.mp hw
      obtain ⟨y, e1, e2⟩ := h2.get (i := i) (d := Cd.d w) (by rw [List.getElem?_map, hi]; rfl)
      exact p1 y (List.mem_of_getElem? e1) _ _ (dq2 ex h1) (dq2 ex e2)
theorem code_le2 {x y : I2} (h1 : (0 ≤ x.1 ∧ x.1 < 2 ^ 62) ∧ (0 ≤ x.2 ∧ x.2 < 2 ^ 62)) (h2 : (0 ≤ y.1 ∧ y.1 < 2 ^ 62) ∧ (0 ≤ y.2 ∧ y.2 < 2 ^ 62)) (h : TS.code (2 ^ 62) [x.1, x.2] ≤ TS.code (2 ^ 62) [y.1, y.2]) : le2 x y := by
  have bd : ∀ {z : I2}, ((0 ≤ z.1 ∧ z.1 < 2 ^ 62) ∧ (0 ≤ z.2 ∧ z.2 < 2 ^ 62)) → TS.Bd (2 ^ 62) [z.1, z.2] := fun {z} q m hm => by
    simp at hm
    rcases hm with e | e <;> subst e <;> omega
  by_cases q : le2 x y
  · exact q
  · exfalso
    have k := le2_total x y q
    have b1 := bd h1
    have b2 := bd h2
    have key : TS.code (2 ^ 62) [y.1, y.2] < TS.code (2 ^ 62) [x.1, x.2] := by
      rcases k with k | ⟨e1, k⟩
      · exact TS.code_lt rfl b2.tail b1.tail k
      · rw [e1]
        refine (TS.code_same (r := [y.2]) (q := [x.2]) rfl).mpr ?_
        have hne : y.2 < x.2 := by
          rcases Int.lt_or_eq_of_le k with z | z
          · exact z
          · exact absurd (by unfold le2; omega) q
        exact TS.code_lt rfl b2.tail.tail b1.tail.tail hne
    omega
section
variable {X : Cx} {ρ ρ1 : Cl} {a : Expr} {p pos : Pos} {A : OA}
theorem xe_sorted2 {xs : List I2} (ok : Ok2 xs) (ha : XE X a ρ ρ1 A) (r : Rls X.K ρ1 A (xs.map Cd.d)) (hm : X.mg "sorted" = none) (hg : Gl X "sorted" := by rfl) (hs : starEach [a] X.env = [(false, eval a X.env)] := by rfl) (hpl : (backTo pos (starEach [] X.env)).any (·.1) = false := by rfl) : XE X (.Call (.Name "sorted" p) [a] [] pos) ρ ρ1 (aLD X.K ((srt2 xs).map Cd.d)) :=
  xe_callB (cr_sortT (d := 2) (B := 2 ^ 62) (by decide)) (xa_cons ha xa_nil hs) (fun E T t σ vs H Q l hl st k => by
    obtain ⟨v, rfl⟩ := vs1 hl
    obtain ⟨G, F, Fv, f, c, q⟩ := ST.one st
    obtain ⟨p1, ys, e1, e2, e3⟩ := r l c f.gh q
    subst e1
    refine ⟨p1, ys, rfl, e2, by rw [e3.len, List.length_map]; exact ok.1, fun x hx => ?_, fun zs p' hp hpw hn => ?_⟩
    · obtain ⟨i, hi⟩ := List.mem_iff_getElem?.mp hx
      have hlt : i < xs.length := by have := lt_of_get hi; rw [e3.len, List.length_map] at this; exact this
      obtain ⟨w, e4, e5⟩ := e3.get (i := i) (d := Cd.d xs[i]) (by rw [List.getElem?_map, List.getElem?_eq_getElem hlt]; rfl)
      rw [hi] at e4
      cases e4
      obtain ⟨b1, b2⟩ := ok.2 xs[i] (List.getElem_mem hlt)
      refine ⟨_, dq2 f.gh e5, rfl, fun m hm => ?_⟩
      simp at hm
      rcases hm with e | e <;> subst e <;> omega
    · obtain ⟨us, pu, du⟩ := dq_perm hp e3
      have pw := dq_pw2 (R := fun n m => TS.code (2 ^ 62) n ≤ TS.code (2 ^ 62) m) f.gh du hpw
      have pw3 : us.Pairwise le2 := List.Pairwise.imp_of_mem (fun {x y} hx hy h => code_le2 (ok.2 x (pu.mem_iff.mp hx)) (ok.2 y (pu.mem_iff.mp hy)) h) pw
      have e := sorted2_unique (pu.trans (srt2_perm xs).symm) pw3 (srt2_sorted xs)
      subst e
      exact k _ _ (ST.newL f c hn du)) hm (by decide +kernel) hg (by decide) (by decide) hs hpl
end
end Mr

namespace Mr
open PySem PySem.Spec PyProof.Rows L2
section
variable {X : Cx} {ρ ρ1 : Cl} {e : Expr} {c : List OA → OA} {As : List OA} {v : V} {A : OA}
end
end Mr

namespace Mr
open PySem PySem.Spec PyProof.Rows L2
section
variable {X : Cx} {ρ ρ1 : Cl} {a : Expr} {p pos : Pos} {A : OA}
end
end Mr

namespace Mr
open PySem PySem.Spec PyProof.Rows L2
abbrev kk2 (k : I2) : List Key := [.inl k.1, .inl k.2]
abbrev ii2 (k : I2) : List V := [.int k.1, .int k.2]
def hsh2 (k : I2) : Int := reduceHash (Builtin.Tuple.tupleHashOf [hashInt k.1, hashInt k.2])
abbrev X2 := I2 × Addr × Value
def ent2 (x : X2) : DictEntry := ⟨hsh2 x.1, .ref x.2.1, x.2.2⟩
abbrev lft2 (x : X2) : List Key × Addr × Value := (kk2 x.1, x.2)
structure TxD (o : Obj) (p : Addr) (xs : List X2) : Prop where
  sz : xs.length ≤ sizeLine
  sys : (p == sysModules) = false
  ex : o.ExactDict
  dat : ∃ es ep, o.data = .dict es ep ∧ es.toList = xs.map ent2
  nd : (xs.map (·.1)).Nodup
def ObO (p : Addr) (o : Obj) : HO := .ext fun h => h.get? p = some o
abbrev KT2 (K : PySem.W.Frag) (G : Hp) : List (I2 × PyData) → List X2 → Prop := Paired fun p q => p.1 = q.1 ∧ SqT K G q.2.1 (ii2 p.1) ∧ ∃ y, RelV y q.2.2 ∧ Dq K G y p.2
def aTl (K : PySem.W.Frag) (o : Obj) (xs : List X2) (kvs : List (I2 × PyData)) : OA := ⟨fun G H v F => ∃ p, v = .ref p ∧ F = [p] ∧ H p = some (ObO p o) ∧ TxD o p xs ∧ KT2 K G kvs xs, fun h e _ k => by
  obtain ⟨p, e1, e2, h1, h2, q⟩ := h
  subst e2
  exact ⟨p, e1, rfl, k p (by simp) _ h1, h2, Paired.mapP q fun _ _ z => ⟨z.1, e.st z.2.1, let ⟨y, a, b⟩ := z.2.2; ⟨y, a, Dq.mono e _ _ b⟩⟩⟩⟩
def aTD (K : PySem.W.Frag) (kvs : List (I2 × PyData)) : OA := ⟨fun G H v F => ∃ o xs, (aTl K o xs kvs).P G H v F, fun h e e' k => by
  obtain ⟨o, xs, h⟩ := h
  exact ⟨o, xs, (aTl K o xs kvs).mono h e e' k⟩⟩
section
variable {α : Type}
def tGet (kvs : List (I2 × α)) (k : I2) : Option α := (kvs.find? fun kv => decide (kv.1 = k)).map (·.2)
def tPut (kvs : List (I2 × α)) (k : I2) (v : α) : List (I2 × α) :=
  if (tGet kvs k).isSome = true then kvs.map (fun kv => if kv.1 = k then (kv.1, v) else kv) else kvs ++ [(k, v)]
def tKeys (kvs : List (I2 × α)) : List I2 := kvs.map (·.1)
abbrev tD [Cd α] (kvs : List (I2 × α)) : List (I2 × PyData) := kvs.map fun kv => (kv.1, Cd.d kv.2)
theorem tGet_cons (kv : I2 × α) (kvs : List (I2 × α)) (k : I2) : tGet (kv :: kvs) k = if kv.1 = k then some kv.2 else tGet kvs k := by
  unfold tGet
  by_cases e : kv.1 = k <;> simp [List.find?_cons, e]
theorem tGet_d [Cd α] (k : I2) : ∀ kvs : List (I2 × α), tGet (tD kvs) k = (tGet kvs k).map Cd.d
  | [] => rfl
  | kv :: kvs => by
    show tGet ((kv.1, Cd.d kv.2) :: tD kvs) k = _
    rw [tGet_cons, tGet_cons, tGet_d k kvs]
    by_cases e : kv.1 = k
    · rw [if_pos e, if_pos e]; rfl
    · rw [if_neg e, if_neg e]
theorem tPut_d [Cd α] (kvs : List (I2 × α)) (k : I2) (x : α) : tPut (tD kvs) k (Cd.d x) = tD (tPut kvs k x) := by
  unfold tPut
  rw [tGet_d, Option.isSome_map]
  split
  · unfold tD
    rw [List.map_map, List.map_map]
    refine List.map_congr_left fun kv _ => ?_
    show (if kv.1 = k then _ else _) = _
    by_cases q : kv.1 = k
    · simp [q]
    · simp [q]
  · simp [tD]
theorem tKeys_d [Cd α] (kvs : List (I2 × α)) : tKeys (tD kvs) = tKeys kvs := by
  unfold tKeys tD
  rw [List.map_map]
  rfl
end
theorem atKey_cons (x : X2) (xs : List X2) (k : I2) : atKey (x :: xs) k = if x.1 = k then some x.2 else atKey xs k := by
  unfold atKey
  by_cases e : x.1 = k <;> simp [List.find?_cons, e]
theorem atKey_cons' (x : X2) (xs : List X2) (k : I2) : atKey ((x :: xs).map lft2) (kk2 k) = if x.1 = k then some x.2 else atKey (xs.map lft2) (kk2 k) := by
  unfold atKey
  by_cases e : x.1 = k
  · simp [List.find?_cons, e]
  · have e' : ¬ kk2 x.1 = kk2 k := fun q => e (by
      simp only [kk2, List.cons.injEq, Sum.inl.injEq, and_true] at q
      exact Prod.ext q.1 q.2)
    simp only [List.map_cons, List.find?_cons, lft2]
    rw [show decide (kk2 x.1 = kk2 k) = false from decide_eq_false e', if_neg e]
theorem atKey_l (k : I2) : ∀ xs : List X2, atKey (xs.map lft2) (kk2 k) = atKey xs k
  | [] => rfl
  | x :: xs => by rw [atKey_cons', atKey_cons, atKey_l k xs]
theorem kk2_inj {a b : I2} (q : kk2 a = kk2 b) : a = b := by
  simp only [kk2, List.cons.injEq, Sum.inl.injEq, and_true] at q
  exact Prod.ext q.1 q.2
theorem storedH_l (xs : List X2) (k : I2) (b : Addr) (u : Value) : storedH (xs.map lft2) (kk2 k) b u = (storedH xs k b u).map lft2 := by
  unfold storedH
  rw [atKey_l]
  split
  · rw [List.map_map, List.map_map]
    refine List.map_congr_left fun x _ => ?_
    show putAt (kk2 k) u (lft2 x) = lft2 (putAt k u x)
    unfold putAt
    by_cases e : x.1 = k
    · rw [if_pos e, if_pos (show (lft2 x).1 = kk2 k by show kk2 x.1 = _; rw [e])]
    · rw [if_neg e, if_neg (fun q => e (kk2_inj q))]
  · rw [List.map_append]; rfl
section
variable {K : PySem.W.Frag} {G H : Hp} {kvs : List (I2 × PyData)} {xs : List X2}
theorem KT2.at (r : KT2 K G kvs xs) (k : I2) : (tGet kvs k = none ∧ atKey xs k = none) ∨ ∃ d q, tGet kvs k = some d ∧ atKey xs k = some q ∧ SqT K G q.1 (ii2 k) ∧ ∃ y, RelV y q.2 ∧ Dq K G y d := by
  induction r with
  | nil => exact .inl ⟨rfl, rfl⟩
  | @cons p q ps qs h t ih =>
    obtain ⟨h1, h2, h3⟩ := h
    rw [tGet_cons, atKey_cons]
    by_cases e : p.1 = k
    · rw [if_pos e, if_pos (h1.symm.trans e)]
      exact .inr ⟨_, _, rfl, rfl, e ▸ h2, h3⟩
    · rw [if_neg e, if_neg (fun z => e (h1.trans z))]
      exact ih
theorem KT2.put (r : KT2 K G kvs xs) (k : I2) {b : Addr} {y : V} {d : PyData} {u : Value} (hb : SqT K G b (ii2 k)) (ry : RelV y u) (hy : Dq K G y d) : KT2 K G (tPut kvs k d) (storedH xs k b u) := by
  have e : (tGet kvs k).isSome = (atKey xs k).isSome := by
    rcases r.at k with ⟨a, b⟩ | ⟨_, _, a, b, _⟩ <;> rw [a, b] <;> rfl
  unfold tPut storedH
  rw [e]
  by_cases q : (atKey xs k).isSome = true
  · rw [if_pos q, if_pos q]
    clear e q
    induction r with
    | nil => exact .nil
    | @cons p q ps qs h t ih =>
      rw [List.map_cons, List.map_cons]
      refine .cons ?_ ih
      obtain ⟨h1, h2, h3⟩ := h
      unfold putAt
      by_cases e : p.1 = k
      · rw [if_pos e, if_pos (h1.symm.trans e)]; exact ⟨h1, h2, y, ry, hy⟩
      · rw [if_neg e, if_neg (fun z => e (h1.trans z))]; exact ⟨h1, h2, h3⟩
  · rw [if_neg q, if_neg q]
    exact Paired.snoc r ⟨rfl, hb, y, ry, hy⟩
theorem KT2.keys (r : KT2 K G kvs xs) : tKeys kvs = xs.map (·.1) := by
  induction r with
  | nil => rfl
  | cons h t ih =>
    unfold tKeys at ih ⊢
    rw [List.map_cons, List.map_cons, ih, h.1]
theorem KT2.dq (r : KT2 K G kvs xs) : DqAll K G (xs.map fun x => V.ref x.2.1) ((tKeys kvs).map fun k => Cd.d k) := by
  induction r with
  | nil => exact .nil
  | cons h t ih => exact .cons (.tup h.2.1 (.cons (.int _) (.cons (.int _) .nil))) ih
def Kys (K : PySem.W.Frag) (H : Hp) (xs : List X2) : Prop := ∀ x ∈ xs, SqT K H x.2.1 (ii2 x.1)
theorem KT2.kys (e : Ex G H) (r : KT2 K G kvs xs) : Kys K H xs := by
  induction r with
  | nil => intro x hx; exact nomatch hx
  | cons h t ih =>
    intro x hx
    rcases List.mem_cons.mp hx with z | hx
    · subst z
      have := e.st h.2.1
      rw [h.1] at this
      exact this
    · exact ih x hx
end
section
variable {X : Cx} {pins : List (Addr × Obj)} {σ : L2.St} {H : Hp} {s : Shared} {a b : Addr} {o : Obj} {xs : List X2} {k : I2}
theorem ObO.get (I : Inv X pins σ H s) (e : H a = some (ObO a o)) : s.heap.get? a = some o := (I.hok a _ e).1
theorem key2_of (I : Inv X pins σ H s) (h : SqT X.K H b (ii2 k)) : (tupleKind (mixKind X.prog X.w)).is s.heap (kk2 k) b := by
  obtain ⟨its, r, ⟨o, h1, h2, n, h3⟩, _⟩ := I.tuple h
  exact ⟨o, its.toArray, n, h1, h2, h3, by simpa using items_are (ks := kk2 k) r⟩
theorem TxD.of (I : Inv X pins σ H s) (e : H a = some (ObO a o)) (t : TxD o a xs) (hk : Kys X.K H xs) : s.heap.DictOfH (tupleKind (mixKind X.prog X.w)) a (xs.map lft2) := by
  obtain ⟨es, ep, h1, h2⟩ := t.dat
  refine ⟨o, es, ep, ObO.get I e, t.ex, h1, ?_, fun x hx => ?_, ?_⟩
  · rw [h2, List.map_map]
    rfl
  · obtain ⟨y, hy, rfl⟩ := List.mem_map.mp hx
    exact key2_of I (hk y hy)
  · have e2 : (xs.map lft2).map (·.1) = (xs.map (·.1)).map kk2 := by rw [List.map_map, List.map_map]; rfl
    rw [e2]
    exact List.Pairwise.map _ (fun a b h q => h (kk2_inj q)) t.nd
theorem obO_ok {P : Program} {w : World} {H : Hp} {h : Heap} (e : h.get? a = some o) : ObjOk P w H h a (ObO a o) := ⟨e, ⟨o, e⟩, fun _ _ q k => k _ q⟩
def tNew2 : TE := fun _ H Q => ∀ p o, H p = none → TxD o p [] → Q (.ref p) (upd H p (ObO p o))
theorem pe_new2 {pos : Pos} : PE X (.Dict [] [] pos) tNew2 := ⟨fun pins s σ H Q I h =>
  wpAny_Dict_empty ⟨.ref s.heap.objs.size, _, I.laid (a := s.heap.objs.size) (o := ObO s.heap.objs.size { cls := .type "dict", data := .dict #[] }) (t' := s.toks) (fun _ _ q => Heap.get?_push_of_some _ q) (Nat.le_refl _) (obO_ok (Heap.get?_push_size _ rfl)), rfl,
    h _ _ (I.hok.fresh (Nat.le_refl _)) ⟨Nat.zero_le _, beq_eq_false_iff_ne.mpr (Ne.symm (Nat.ne_of_lt I.big)), ⟨rfl, rfl, rfl⟩, ⟨#[], 0, rfl, rfl⟩, List.nodup_nil⟩⟩⟩
def tGet2 (K : PySem.W.Frag) (td ty : TE) : TE := fun σ H Q => td σ H fun x H1 => ty σ H1 fun y H2 => ∃ a o xs k b q v, x = .ref a ∧ H2 a = some (ObO a o) ∧ TxD o a xs ∧ Kys K H2 xs ∧ y = .ref b ∧ SqT K H2 b (ii2 k) ∧ atKey xs k = some q ∧ RelV v q.2 ∧ Q v H2
theorem pe_get2 {e i : Expr} {td ty : TE} {pos : Pos} (hu : X.A.units + 1 < cLine) (ho : PE X e td) (hi : PE X i ty) (hs : NoSl i) : PE X (.Subscript e i pos) (tGet2 X.K td ty) := by
  refine ⟨fun pins s σ H Q I h => ?_⟩
  refine subD_of PySem.F.slot_dict_getitem.lookup hs (thn (ho.run pins s σ H _ I h) fun u s1 ⟨x, H1, I1, rx, q1⟩ => thn (hi.run pins s1 σ H1 _ I1 q1) fun iv s2 ⟨y, H2, I2, ry, a, o, xs, k, b, q, v, ex, h1, h2, h3, ey, h4, h5, h6, q2⟩ => ?_)
  subst ex ey
  obtain rfl : u = Value.ref a := rx
  obtain rfl : iv = Value.ref b := ry
  have dd := h2.of I2 h1 h3
  exact ⟨dd.typeIs, wpAny_getItem_heap (tupleKind_room_in1 hu) (key2_of I2 h4) dd (by rw [atKey_l]; exact h5) ⟨v, H2, I2.tok _, h6, q2⟩⟩
def tGet3 (K : PySem.W.Frag) (td ty tx : TE) : TE := fun σ H Q => td σ H fun x H1 => (∃ a o xs, x = .ref a ∧ H1 a = some (ObO a o) ∧ TxD o a xs) ∧ ty σ H1 fun y H2 => tx σ H2 fun z H3 =>
  ∃ a o xs k b v, x = .ref a ∧ H3 a = some (ObO a o) ∧ TxD o a xs ∧ Kys K H3 xs ∧ y = .ref b ∧ SqT K H3 b (ii2 k) ∧ (∀ u, RelV z u → RelV v (((atKey xs k).map (·.2)).getD u)) ∧ Q v H3
theorem pe_get3 {e i c : Expr} {td ty tx : TE} {apos cpos : Pos} (hu : X.A.units + 1 < cLine) (ho : PE X e td) (he : PE X i ty) (hf : PE X c tx) (m : M2 X e "get" apos i c cpos) : PE X (.Call (.Attribute e "get" apos) [i, c] [] cpos) (tGet3 X.K td ty tx) := by
  refine ⟨fun pins s σ H Q I h => ?_⟩
  refine wpAny_Call_method m.base m.few m.line PySem.F.plainAttrs_dict PySem.F.slot_dict_get PySem.F.type_dict_get (thn (ho.run pins s σ H _ I h) fun u s1 ⟨x, H1, I1, rx, ⟨a, o, xs, ex, d, t⟩, q1⟩ => ?_)
  subst ex
  obtain rfl : u = Value.ref a := rx
  have g := ObO.get I1 d
  refine ⟨⟨o, g, t.ex.1⟩, fun b q => by cases q; exact ⟨o, g, t.ex.2.1⟩, ?_⟩
  rw [m.trees]
  refine Calls.callWith_builtin rfl (Calls.evalArgs_plain (Calls.spliced_cons (thn (he.run pins s1 σ H1 _ I1 q1) fun iv s2 ⟨y, H2, I2, ry, q2⟩ =>
    Calls.spliced_cons (thn (hf.run pins s2 σ H2 _ I2 q2) fun fv s3 ⟨z, H3, I3, rz, a', o', xs', k, b, v, ex, h1, h2, h3, ey, h4, h5, q3⟩ => Calls.spliced_nil ?_))))
  cases ex
  subst ey
  obtain rfl : iv = Value.ref b := ry
  have dd := h2.of I3 h1 h3
  refine call_meetsIn PySem.F.slot_dict_get dd.typeIs PySem.F.entry_dict_get (PySem.F.args_dict_get_3 _ _ _) (meetsH_dict_get_default (tupleKind (mixKind X.prog X.w)) a b h2.sys fv) ⟨tupleKind_room_in1 hu, kk2 k, _, key2_of I3 h4, dd, v, H3, I3.tok _, ?_, q3⟩
  rw [atKey_l]
  exact h5 _ rz
def sPut2 (K : PySem.W.Frag) (td ty tv : TE) : TS := fun D σ H => tv σ H fun v H1 => td σ H1 fun x H2 => ty σ H2 fun y H3 => ∃ a o xs k b, x = .ref a ∧ H3 a = some (ObO a o) ∧ TxD o a xs ∧ xs.length < sizeLine ∧ Kys K H3 xs ∧ y = .ref b ∧ SqT K H3 b (ii2 k) ∧
  ∀ o' u, RelV v u → TxD o' a (storedH xs k b u) → D.nx σ (upd H3 a (ObO a o'))
theorem ps_put2 {e i value : Expr} {td ty tv : TE} {pos pos' : Pos} (hu : X.A.units + 1 < cLine) (ho : PE X e td) (hi : PE X i ty) (hv : PE X value tv) (hs : swapsWith value (some (.Subscript e i pos')) pos.line X.env = pure false) :
    PS X (.Assign [.Subscript e i pos'] value pos) (sPut2 X.K td ty tv) := by
  refine ⟨fun pins s σ H D I h => ?_⟩
  refine wpAny_Assign_Subscript (thn (hv.run pins s σ H _ I h) fun r s1 ⟨v, H1, I1, rv, q1⟩ => thn (ho.run pins s1 σ H1 _ I1 q1) fun u s2 ⟨x, H2, I2, rx, q2⟩ => thn (hi.run pins s2 σ H2 _ I2 q2) fun iv s3 ⟨y, H3, I3, ry, a, o, xs, k, b, ex, h1, h2, h0, h3, ey, h4, q3⟩ => ?_) hs
  subst ex ey
  obtain rfl : u = Value.ref a := rx
  obtain rfl : iv = Value.ref b := ry
  have dd := h2.of I3 h1 h3
  refine wpAny_setItem_heap (hsz := by rw [List.length_map]; exact h2.sz) (tupleKind_room_in1 hu) (key2_of I3 h4) dd fun h' dd' hsb => ?_
  rw [storedH_l] at dd'
  obtain ⟨o', es, ep, g1, g2, g3, g4, _, g5⟩ := dd'
  have t' : TxD o' a (storedH xs k b r) := by
    refine ⟨?_, h2.sys, g2, ⟨es, ep, g3, ?_⟩, ?_⟩
    · unfold storedH
      split
      · rw [List.length_map]; exact h2.sz
      · rw [List.length_append, List.length_cons, List.length_nil]; omega
    · rw [g4, List.map_map]
      rfl
    · have e2 : ((storedH xs k b r).map lft2).map (·.1) = ((storedH xs k b r).map (·.1)).map kk2 := by rw [List.map_map, List.map_map]; rfl
      rw [e2] at g5
      exact (List.pairwise_map.mp g5).imp fun h q => h (by rw [q])
  refine ⟨σ, _, ?_, q3 o' r rv t'⟩
  exact d_write I3 (by rw [h1]; exact True.intro) hsb ⟨o', g1⟩ (obO_ok g1)
end
end Mr

namespace Mr
open PySem PySem.Spec PyProof.Rows L2
theorem keys_raw {xs : List X2} {es : Array DictEntry} (he : es.toList = xs.map ent2) {acc : Array Value} (it : ItemsOf (fun i v => ∃ en : DictEntry, es[i]? = some en ∧ v = en.key) acc es.size) : acc.toList = xs.map fun x => Value.ref x.2.1 := by
  have l1 : es.size = xs.length := by rw [← Array.length_toList, he, List.length_map]
  have hl : acc.toList.length = xs.length := by rw [Array.length_toList, it.1]; exact l1
  apply List.ext_getElem?
  intro j
  rw [List.getElem?_map]
  cases hj : acc.toList[j]? with
  | none =>
    have h1 := List.getElem?_eq_none_iff.mp hj
    rw [List.getElem?_eq_none (by omega)]
    rfl
  | some v =>
    obtain ⟨en, hen, hv⟩ := it.2 j v (by rw [← Array.getElem?_toList]; exact hj)
    rw [← Array.getElem?_toList, he, List.getElem?_map] at hen
    cases hb : xs[j]? with
    | none => rw [hb] at hen; cases hen
    | some b =>
      rw [hb] at hen
      have e2 : ent2 b = en := Option.some.inj hen
      rw [hv, ← e2]
      rfl
theorem vals_r2 : ∀ xs : List X2, Vals (xs.map fun x => V.ref x.2.1) (xs.map fun x => Value.ref x.2.1)
  | [] => .nil
  | _ :: r => .cons rfl (vals_r2 r)
section
variable {X : Cx}
theorem call_list2 (hc : X.calm = true) : CallR X (.type "list") (fun vs H Q => ∃ d o xs, vs = [V.ref d] ∧ H d = some (ObO d o) ∧ TxD o d xs ∧ ∀ p, H p = none → Q (.ref p) (upd H p (.lst (xs.map fun x => V.ref x.2.1)))) := by
  intro pins s σ H vs us Q I r h
  obtain ⟨d, o, xs, rfl, hd, t, q⟩ := h
  rw [Vals.ref1 r]
  obtain ⟨es, ep, hdt, he⟩ := t.dat
  have ho := ObO.get I hd
  have l1 : es.size = xs.length := by rw [← Array.length_toList, he, List.length_map]
  refine PySem.W.kdl_call (kdl_raw t.sys t.ex hdt) (I.ok.hd hc) ho (by rw [l1]; exact t.sz) fun h' tk acc' c' kp e it => ?_
  have ea := keys_raw he it
  have rv : Vals (xs.map fun x => V.ref x.2.1) acc'.toList := by rw [ea]; exact vals_r2 _
  refine ⟨.ref s.heap.objs.size, _, I.laid (t' := tk) (o := .lst (xs.map fun x => V.ref x.2.1)) kp (Nat.le_refl _) ?_, rfl, q _ (I.hok.fresh (Nat.le_refl _))⟩
  exact ⟨by rw [List.length_map]; exact t.sz, acc'.toList, c', rv, by rw [Array.toArray_toList]; exact e⟩
def rSort2 (K : PySem.W.Frag) (B : Int) : List V → Hp → VK → Prop := fun vs H Q => ∃ (a : Addr) (o : Obj) (xs : List X2), vs = [V.ref a] ∧ H a = some (ObO a o) ∧ TxD o a xs ∧ Kys K H xs ∧ xs.length < 64 ∧ (∀ x ∈ xs, TS.Bd B [x.1.1, x.1.2]) ∧
  ∀ (ys : List V) (p : Addr), ys.Perm (xs.map fun x => V.ref x.2.1) → ys.Pairwise (fun x y => ∀ n m, TupI K H x n → TupI K H y m → TS.code B n ≤ TS.code B m) → H p = none → Q (.ref p) (upd H p (.lst ys))
theorem cr_sort2 {B : Int} (hc : X.calm = true) : CallR X (.builtin "sorted") (rSort2 X.K B) := by
  intro pins s σ H vs us Q I r h
  obtain ⟨a, o, xs, rfl, hd, t, hk, h64, hb, q⟩ := h
  rw [Vals.ref1 r]
  obtain ⟨es, ep, hdt, he⟩ := t.dat
  have ho := ObO.get I hd
  have l1 : es.size = xs.length := by rw [← Array.length_toList, he, List.length_map]
  refine Calls.call_function_entry PyProof.Rows.kind_sorted PyProof.Rows.plain_sorted PyProof.Rows.entry_sorted (PyProof.Rows.args_sorted1 _) ?_
  unfold Builtin.«sorted»
  refine wpAny_bind (m := checkCount "sorted" 1 1 _) (wpAny_pure ?_)
  refine wpAny_bind (PySem.W.kdu_collect (A := X.A.in1) (kdl_raw t.sys t.ex hdt) (I.ok.hd hc) ho (by rw [l1]; exact t.sz) fun h' tk acc hkp hacc => ?_)
  have ea := keys_raw he hacc
  have I1 : Inv X pins σ H { s with heap := h', toks := tk } := I.kept hkp
  have hal : acc.toList.length = xs.length := by rw [ea, List.length_map]
  refine wpAny_bind (wpAny_newList ?_ (by rw [hal, sizeLine_eq]; omega))
  have hoL : (h'.push (seqObj "list" acc.toList.toArray 0)).get? h'.objs.size = some (seqObj "list" acc.toList.toArray 0) := Heap.get?_push_size _ rfl
  have keep : ∀ b o, h'.get? b = some o → o.cls = .type "tuple" → (h'.push (seqObj "list" acc.toList.toArray 0)).get? b = some o := fun b o q _ => Heap.get?_push_of_some _ q
  have ti : ∀ x ∈ xs, TS.TupInts h' (.ref x.2.1) [x.1.1, x.1.2] := fun x hx => tupI_raw I1 (hk x hx)
  have tk1 : TS.TupsOk h' 2 B acc.toList := fun v hv => by
    rw [ea] at hv
    obtain ⟨x, hx, rfl⟩ := List.mem_map.mp hv
    exact ⟨_, ti x hx, rfl, hb x hx⟩
  show wpAny _ _ _ _ _ { s with heap := h'.push (seqObj "list" acc.toList.toArray 0), toks := tk }
  refine wpAny_bind (wpAny_holding (wpAny_call_entry PyProof.Rows.slot_list_sort ⟨_, hoL, rfl⟩ PyProof.Rows.entry_list_sort
    (TS.sort_tups (s := { s with heap := h'.push (seqObj "list" acc.toList.toArray 0), toks := tk }) hoL (by rw [hal]; exact h64) (by decide) (tk1.keeps keep) (fun v => TS.code B (TS.intsOf h' v)) (fun v hv ns t => ?_) fun out a1 a2 => ⟨_, rfl, ?_⟩) (PyProof.Rows.args_list_sort _)))
  · obtain ⟨ns0, t0, _⟩ := tk1 v hv
    have e : ns = ns0 := t.ints.symm.trans (t0.keeps keep).ints
    rw [e]
    show TS.code B (TS.intsOf h' v) = TS.code B ns0
    rw [t0.ints]
  · obtain ⟨e', he'⟩ := PyProof.Rows.sortedHeap_at (vs := acc.toList) (out := out) hoL
    have e2 : ∀ u ∈ out.toList, ∃ b, u = Value.ref b := fun u hu => by
      have hu := a1.mem_iff.mp hu
      rw [ea] at hu
      obtain ⟨x, _, rfl⟩ := List.mem_map.mp hu
      exact ⟨_, rfl⟩
    have hp : (out.toList.map bkV).Perm (xs.map fun x => V.ref x.2.1) := by
      have := a1.map bkV
      rw [ea, List.map_map] at this
      exact this
    have hlen : (out.toList.map bkV).length ≤ sizeLine := by
      rw [hp.length_eq, List.length_map]
      exact t.sz
    refine wpAny_pure ⟨_, rfl, .ref h'.objs.size, upd H h'.objs.size (.lst (out.toList.map bkV)), I1.laid (t' := tk) (fun b u e => ?_) (Nat.le_refl _)
      (show ObjOk X.prog X.w _ _ _ (.lst (out.toList.map bkV)) from ⟨hlen, out.toList, e', bkV_vals e2, by rw [Array.toArray_toList]; exact he'⟩), rfl, q _ _ hp ?_ (I1.hok.fresh (Nat.le_refl _))⟩
    · have hb : b < h'.objs.size := Heap.lt_size e
      rw [PyProof.Rows.sortedHeap_old (Nat.ne_of_lt hb) (by rw [size_push']; exact Nat.lt_succ_of_lt hb)]
      exact Heap.get?_push_of_some _ e
    · rw [List.pairwise_map]
      refine List.Pairwise.imp (fun {u v} huv n m hn hm => ?_) a2
      obtain ⟨t1, et, ht⟩ := hn
      obtain ⟨t2, et', ht'⟩ := hm
      have eu := bkV_ref et
      have ev := bkV_ref et'
      have i1 : TS.intsOf h' u = n := by
        rw [eu]
        exact (tupI_raw I1 ht).ints
      have i2 : TS.intsOf h' v = m := by
        rw [ev]
        exact (tupI_raw I1 ht').ints
      have huv : TS.code B (TS.intsOf h' u) ≤ TS.code B (TS.intsOf h' v) := huv
      rw [← i1, ← i2]
      exact huv
end
def It2 (d : Addr) (o : Obj) (xs : List X2) : It :=
  ⟨fun i H => H d = some (ObO d o) ∧ i < xs.length, fun i H x H' => H' = H ∧ ∃ z, xs[i]? = some z ∧ x = .ref z.2.1, fun i H => H d = some (ObO d o) ∧ xs.length ≤ i⟩
theorem turn_2 {P : Program} {w : World} {K : PySem.W.Frag} {tg : Expr} {d : Addr} {o : Obj} {es : Array DictEntry} {ep : Nat} {xs : List X2} (it : Addr) (hdt : o.data = .dict es ep) (he : es.toList = xs.map ent2) : Turn P w K tg (It2 d o xs) [it] it (fun i h => h.IsKeyIter it d i xs.length ep) where
  mem := by simp
  obj := fun i h st b hb => by
    have e : b = it := by simpa using hb
    subst e
    obtain ⟨oi, e, c, dd⟩ := st
    exact ⟨oi, e, fun v z => by rw [dd] at z; cases z⟩
  keep := fun i h h' st k => st.at fun oi e => k it (by simp) oi e
  item := by
    intro X hP hw hK hc i pins s σ H E I hf st hg
    subst hP hw hK
    obtain ⟨hd, hi⟩ := hg
    obtain ⟨f0, f1, f2, f3, f4, f5⟩ := hf it (by simp)
    have hgd := ObO.get I hd
    have hsz : es.size = xs.length := by rw [← Array.length_toList, he, List.length_map]
    have hkv : xs[i]? = some xs[i] := List.getElem?_eq_getElem hi
    have hen : es[i]? = some (ent2 xs[i]) := by rw [← Array.getElem?_toList, he, List.getElem?_map, hkv]; rfl
    refine next_key_item st hgd hdt hsz hen fun h' st' sb => ?_
    have I1 : Inv X pins σ H { s with heap := h' } := I.turned (t' := s.toks) (fun b ob hb e => (sb.2 b hb).trans e) f0 f1 f3 f4 f5
    obtain ⟨oi, e, c, dd⟩ := id st'
    exact ⟨_, rfl, go_of (s := { s with heap := h' }) e c dd (by decide) ⟨.ref xs[i].2.1, H, I1, rfl, ⟨rfl, xs[i], hkv, rfl⟩, st', fun b hb => (hf b hb).1⟩⟩
  done := by
    intro X hP hw hK hc i pins s σ H E I hf st hg
    subst hP hw hK
    obtain ⟨hd, hi⟩ := hg
    obtain ⟨f0, f1, f2, f3, f4, f5⟩ := hf it (by simp)
    have hgd := ObO.get I hd
    have hsz : es.size = xs.length := by rw [← Array.length_toList, he, List.length_map]
    exact next_key_end (I.ok.hd hc) st hgd hdt hsz hi fun h' eb => ⟨rfl, I.turned (t' := s.toks) (fun b ob hb e => eb b ob hb e) f0 f1 f3 f4 f5⟩
  self := fun A i s Q E st h => by
    refine wpAny_pyIter_slot st.typeIs F.slot_dict_keyiterator_iter (wpAny_call_entry F.slot_dict_keyiterator_iter st.typeIs F.entry_dict_keyiterator_iter ?_ (F.args_dict_keyiterator_iter_1 _))
    show wpAny _ _ (ret (.ref it)) _ _ s
    exact wpAny_pure ⟨_, rfl, "dict_keyiterator", _, st.typeIs, F.slot_dict_keyiterator_next.lookup, h⟩
def iKeys2 (td : TE) : TI := fun σ H R => td σ H fun x H1 => ∃ d o xs, x = .ref d ∧ H1 d = some (ObO d o) ∧ TxD o d xs ∧ R (It2 d o xs) H1
theorem pi_keys2 {X : Cx} {tg e : Expr} {td : TE} (he : PE X e td) : PI X tg e (iKeys2 td) := by
  refine ⟨fun pins s σ H R I h => ?_⟩
  refine thn (he.run pins s σ H _ I h) fun u s1 ⟨x, H1, I1, rx, d, o, xs, ex, hd, t, q⟩ => ?_
  subst ex
  obtain rfl : u = Value.ref d := rx
  obtain ⟨es, ep, hdt, hes⟩ := t.dat
  have hsz : es.size = xs.length := by rw [← Array.length_toList, hes, List.length_map]
  refine iter_keys t.sys (ObO.get I1 hd) t.ex hdt (pi_one (tk := s1.toks) I1 _ (turn_2 _ hdt hes) ⟨_, Heap.get?_push_size _ rfl, rfl, ?_⟩ q)
  rw [hsz] <;> rfl
theorem ST.seeT {K : PySem.W.Frag} {v0 : V} {T ρ : Cl} {t σ : L2.St} {G H : Hp} {F : List Addr} {kvs : List (I2 × PyData)} {w : OA → Cl} (l : T.length = t.length) (c : Cs G H (T ++ ρ) (t ++ σ) F) (O : Own ρ v0 (aTD K kvs) w) :
    ∃ p o xs, v0 = .ref p ∧ H p = some (ObO p o) ∧ TxD o p xs ∧ KT2 K G kvs xs := by
  obtain ⟨F1, F2, e1, ⟨o, xs, p, e2, e3, h1, h2, q⟩, go⟩ := O.get l c
  exact ⟨p, o, xs, e2, h1, h2, q⟩
theorem ST.seeTl {K : PySem.W.Frag} {v0 : V} {T ρ : Cl} {t σ : L2.St} {G H : Hp} {F : List Addr} {kvs : List (I2 × PyData)} {o : Obj} {xs : List X2} {w : OA → Cl} (l : T.length = t.length) (c : Cs G H (T ++ ρ) (t ++ σ) F) (O : Own ρ v0 (aTl K o xs kvs) w) :
    ∃ p, v0 = .ref p ∧ H p = some (ObO p o) ∧ TxD o p xs ∧ KT2 K G kvs xs := by
  obtain ⟨F1, F2, e1, ⟨p, e2, e3, h1, h2, q⟩, go⟩ := O.get l c
  exact ⟨p, e2, h1, h2, q⟩
theorem ST.modT {E : Ent} {K : PySem.W.Frag} {v0 : V} {T ρ : Cl} {t σ : L2.St} {G H : Hp} {F : List Addr} {kvs : List (I2 × PyData)} {w : OA → Cl} (l : T.length = t.length) (f : Frm E G H F) (c : Cs G H (T ++ ρ) (t ++ σ) F) (O : Own ρ v0 (aTD K kvs) w) :
    ∃ p o xs, v0 = .ref p ∧ H p = some (ObO p o) ∧ TxD o p xs ∧ KT2 K G kvs xs ∧ ∀ kvs' o' xs', TxD o' p xs' → KT2 K G kvs' xs' → ST E (T ++ w (aTD K kvs')) (t ++ σ) (upd H p (ObO p o')) := by
  obtain ⟨F1, F2, e1, ⟨o, xs, p, e2, e3, h1, h2, q⟩, go⟩ := O.get l c
  subst e2 e3
  refine ⟨p, o, xs, rfl, h1, h2, q, fun kvs' o' xs' h2' q' => ?_⟩
  have f1 := f.perm e1
  have f2 : Frm ⟨G, H, [p]⟩ G H [p] := (f1.less (List.sublist_append_left _ _)).start
  have f3 := Frm.write (o := ObO p o') f2
  obtain ⟨f5, st5⟩ := f.step e1 f3
  obtain ⟨F6, e8, c4⟩ := go (.refl _) f5.gh st5 (B := aTD K kvs') (F1' := [p]) ⟨o', xs', p, rfl, rfl, upd_same, h2', q'⟩
  exact ⟨G, F6, f5.perm e8.symm, c4⟩
theorem dq2' {K : PySem.W.Frag} {G : Hp} {v : V} {t : I2} (h : Dq K G v (Cd.d t)) : ∃ b, v = .ref b ∧ SqT K G b (ii2 t) := by
  have h : Dq K G v (PyData.tuple [PyData.int t.1, PyData.int t.2]) := h
  cases h with
  | tup a1 a2 =>
    rename_i a xs
    refine ⟨a, rfl, ?_⟩
    have e : xs = [t.1, t.2].map V.int := dq_vints (xs := [t.1, t.2]) a2
    rw [← show xs = ii2 t from e]
    exact a1
section
variable {X : Cx} {ρ ρ1 ρ2 : Cl} {a b c e o iter tg : Expr} {pos pos' tpos p apos cpos : Pos} {v0 : V} {w w0 w1 : OA → Cl} {α : Type} [Cd α] {kvs kvs0 kvs1 : List (I2 × α)} {k : I2} {x : α} {ω : Type} {rest : List Stmt} {m : Option ω} {Φ : ω → Ent → Ends → Prop}
theorem xe_tnew : XE X (.Dict [] [] pos) ρ ρ (aTD X.K (tD ([] : List (I2 × α)))) := fun E T t σ H l st Q kk =>
  wE.of pe_new2 fun p o hp td => by
    obtain ⟨G, F, f, c⟩ := st
    obtain ⟨f1, keep⟩ := f.step (Fa := []) (Fr := F) (by simp) (Frm.alloc (o := ObO p o) f.gh hp)
    exact kk _ _ ⟨G, _, f1, .ref p, [p], F, rfl, rfl, ⟨o, [], p, rfl, rfl, upd_same, td, .nil⟩, c.mono (.refl _) f1.gh keep⟩
theorem xe_tget (hu : X.A.units + 64 < cLine) (hx : tGet kvs k = some x) (ho : XE X o ρ ρ (aV v0)) (hb : XE X b ρ ρ1 (aD X.K (Cd.d k))) (O : Own ρ1 v0 (aTD X.K (tD kvs)) w) (hs : NoSl b := by exact fun _ _ => rfl) : XE X (.Subscript o b pos) ρ ρ1 (aD X.K (Cd.d x)) := fun E T t σ H l st Q kk =>
  wE.of (pe_get2 (hu1 hu) peS peS hs) (ho E T t σ H l st _ fun u H1 st1 => by
    have e0 := ST.topV st1
    subst e0
    refine hb E (_ :: T) (_ :: t) σ H1 (by simp [l]) st1 _ fun y H2 st2 => ?_
    obtain ⟨G, F, f, c, q⟩ := ST.top (ST.drop2 st2)
    obtain ⟨pb, rfl, sq⟩ := dq2' q
    obtain ⟨p, od, xs, e1, h1, h2, q⟩ := ST.seeT l c O
    rcases q.at k with ⟨g1, g2⟩ | ⟨d, qq, g1, g2, g3, v, g4, g5⟩
    · rw [tGet_d, hx] at g1; cases g1
    · rw [tGet_d, hx] at g1
      cases g1
      exact ⟨p, od, xs, k, pb, qq, v, e1, h1, h2, q.kys f.gh, rfl, f.gh.st sq, g2, g4, kk _ _ (ST.put f c g5)⟩)
theorem xe_tgetL {od : Obj} {xs : List X2} (hu : X.A.units + 64 < cLine) (hx : tGet kvs k = some x) (ho : XE X o ρ ρ (aV v0)) (hb : XE X b ρ ρ1 (aD X.K (Cd.d k))) (O : Own ρ1 v0 (aTl X.K od xs (tD kvs)) w) (hs : NoSl b := by exact fun _ _ => rfl) : XE X (.Subscript o b pos) ρ ρ1 (aD X.K (Cd.d x)) := fun E T t σ H l st Q kk =>
  wE.of (pe_get2 (hu1 hu) peS peS hs) (ho E T t σ H l st _ fun u H1 st1 => by
    have e0 := ST.topV st1
    subst e0
    refine hb E (_ :: T) (_ :: t) σ H1 (by simp [l]) st1 _ fun y H2 st2 => ?_
    obtain ⟨G, F, f, c, q⟩ := ST.top (ST.drop2 st2)
    obtain ⟨pb, rfl, sq⟩ := dq2' q
    obtain ⟨p, e1, h1, h2, q⟩ := ST.seeTl l c O
    rcases q.at k with ⟨g1, g2⟩ | ⟨d, qq, g1, g2, g3, v, g4, g5⟩
    · rw [tGet_d, hx] at g1; cases g1
    · rw [tGet_d, hx] at g1
      cases g1
      exact ⟨p, od, xs, k, pb, qq, v, e1, h1, h2, q.kys f.gh, rfl, f.gh.st sq, g2, g4, kk _ _ (ST.put f c g5)⟩)
theorem xe_tget2 (hu : X.A.units + 64 < cLine) (ho : XE X o ρ ρ (aV v0)) (O0 : Own ρ v0 (aTD X.K (tD kvs0)) w0) (hb : XE X b ρ ρ1 (aD X.K (Cd.d k))) (hc : XE X c ρ1 ρ2 (aD X.K (Cd.d x))) (O : Own ρ2 v0 (aTD X.K (tD kvs)) w) (M : M2 X o "get" apos b c cpos) :
    XE X (.Call (.Attribute o "get" apos) [b, c] [] cpos) ρ ρ2 (aD X.K (Cd.d ((tGet kvs k).getD x))) := fun E T t σ H l st Q kk =>
  wE.of (pe_get3 (hu1 hu) peS peS peS M) (ho E T t σ H l st _ fun u H1 st1 => by
    have e0 := ST.topV st1
    subst e0
    obtain ⟨G0, F0, f0, c0⟩ := ST.pop st1
    obtain ⟨p0, o0, xs0, e1, h0, t0, q0⟩ := ST.seeT l c0 O0
    subst e1
    refine ⟨⟨p0, o0, xs0, rfl, h0, t0⟩, hb E (_ :: T) (_ :: t) σ H1 (by simp [l]) st1 _ fun y H2 st2 => hc E (_ :: _ :: T) (_ :: _ :: t) σ H2 (by simp [l]) st2 _ fun z H3 st3 => ?_⟩
    obtain ⟨G, F, f, ⟨vb, Fa, Fb, a1, a2, ⟨q1, q1'⟩, cs⟩, q2⟩ := ST.top st3
    cases a1
    subst a2 q1'
    obtain ⟨pb, rfl, sq⟩ := dq2' q1
    obtain ⟨vc, Fc, Fd, b1, b2, ⟨b3, b4⟩, cs⟩ := cs
    cases b1
    subst b2 b4
    obtain ⟨p, od, xs, e1, h1, h2, q⟩ := ST.seeT l cs O
    cases e1
    rcases q.at k with ⟨g1, g2⟩ | ⟨d, qq, g1, g2, g3, v, g4, g5⟩
    · rw [tGet_d] at g1
      have g8 : tGet kvs k = none := by cases z : tGet kvs k with | none => rfl | some _ => rw [z] at g1; cases g1
      rw [g8] at kk
      refine ⟨_, od, xs, k, pb, z, rfl, h1, h2, q.kys f.gh, rfl, f.gh.st sq, fun u hu => ?_, kk _ _ ⟨G, _, f, z, [], _, rfl, rfl, ⟨q2, rfl⟩, by simpa using cs⟩⟩
      rw [g2]
      exact hu
    · rw [tGet_d] at g1
      obtain ⟨x', g7, g6⟩ := Option.map_eq_some_iff.mp g1
      subst g6
      rw [g7] at kk
      refine ⟨_, od, xs, k, pb, v, rfl, h1, h2, q.kys f.gh, rfl, f.gh.st sq, fun u hu => ?_, kk _ _ ⟨G, _, f, v, [], _, rfl, rfl, ⟨g5, rfl⟩, by simpa using cs⟩⟩
      rw [g2]
      exact g4)
theorem xg_tput (hu : X.A.units + 64 < cLine) (hz : kvs.length < 1000000) (he : XE X e ρ ρ1 (aD X.K (Cd.d x))) (ho : XE X o ρ1 ρ1 (aV v0)) (hb : XE X b ρ1 ρ2 (aD X.K (Cd.d k))) (O : Own ρ2 v0 (aTD X.K (tD kvs)) w) (h : XG X rest (w (aTD X.K (tD (tPut kvs k x)))) m Φ)
    (hs : swapsWith e (some (.Subscript o b pos')) pos.line X.env = pure false := by rfl) : XG X (.Assign [.Subscript o b pos'] e pos :: rest) ρ m Φ := fun r hr E σ H D st q =>
  wS.of (pss_cons (ps_put2 (hu1 hu) peS peS peS hs) pssS) (he E [] [] σ H rfl st _ fun y H1 st1 => ho E [_] [_] σ H1 rfl st1 _ fun u H2 st2 => by
    have e0 := ST.topV st2
    subst e0
    refine hb E [_, _] [_, _] σ H2 rfl st2 _ fun i H3 st3 => ?_
    have st4 : ST E (some (aD X.K (Cd.d k)) :: some (aD X.K (Cd.d x)) :: ρ2) (some i :: some y :: σ) H3 := ST.drop2 st3
    obtain ⟨G, F, f, c, q1, q2⟩ := ST.top2 st4
    obtain ⟨pb, rfl, sq⟩ := dq2' q2
    obtain ⟨p, od, xs, e1, h1, h2, q3, go⟩ := ST.modT (T := []) (t := []) rfl f c O
    refine ⟨p, od, xs, k, pb, e1, h1, h2, ?_, q3.kys f.gh, rfl, f.gh.st sq, fun o' uu ru td => ?_⟩
    · rw [← Paired.length q3, List.length_map]; exact sz_lt hz
    refine h r hr E σ _ D ?_ q
    have q5 := go _ _ _ td (q3.put k sq ru q1)
    rw [tPut_d] at q5
    exact q5)
theorem xe_tlist (hc : X.calm = true) (ho : XE X o ρ ρ1 (aV v0)) (O : Own ρ1 v0 (aTD X.K (tD kvs)) w) (hm : X.mg "list" = none) (hg : Gl X "list" := by rfl) (hs : starEach [o] X.env = [(false, eval o X.env)] := by rfl) (hpl : (backTo pos (starEach [] X.env)).any (·.1) = false := by rfl) : XE X (.Call (.Name "list" p) [o] [] pos) ρ ρ1 (aLD X.K ((tKeys kvs).map Cd.d)) :=
  xe_callTy (call_list2 hc) (xa_cons ho xa_nil hs) (fun E T t σ vs H Q l hl st k => by
    obtain ⟨v, rfl⟩ := vs1 hl
    have e0 := ST.topV st
    subst e0
    obtain ⟨G, F, f, c⟩ := ST.pop st
    obtain ⟨q, od, xs, e1, h1, h2, h3⟩ := ST.seeT l c O
    refine ⟨q, od, xs, by rw [e1], h1, h2, fun p' hn => ?_⟩
    have := h3.dq
    rw [tKeys_d] at this
    exact k _ _ (ST.newL f c hn this)) hm (by decide +kernel) hg (by decide) (by decide) hs hpl
theorem xe_tsorted (ok : Ok2 (tKeys kvs)) (hc : X.calm = true) (ho : XE X o ρ ρ1 (aV v0)) (O : Own ρ1 v0 (aTD X.K (tD kvs)) w) (hm : X.mg "sorted" = none) (hg : Gl X "sorted" := by rfl) (hs : starEach [o] X.env = [(false, eval o X.env)] := by rfl) (hpl : (backTo pos (starEach [] X.env)).any (·.1) = false := by rfl) : XE X (.Call (.Name "sorted" p) [o] [] pos) ρ ρ1 (aLD X.K ((srt2 (tKeys kvs)).map Cd.d)) :=
  xe_callB (cr_sort2 (B := 2 ^ 62) hc) (xa_cons ho xa_nil hs) (fun E T t σ vs H Q l hl st k => by
    obtain ⟨v, rfl⟩ := vs1 hl
    have e0 := ST.topV st
    subst e0
    obtain ⟨G, F, f, c⟩ := ST.pop st
    obtain ⟨q, od, xs, e1, h1, h2, h3⟩ := ST.seeT l c O
    have hk := h3.keys
    rw [tKeys_d] at hk
    have hd := h3.dq
    rw [tKeys_d] at hd
    refine ⟨q, od, xs, by rw [e1], h1, h2, h3.kys f.gh, ?_, fun x hx m hm => ?_, fun zs p' hp hpw hn => ?_⟩
    · have := ok.1
      rw [hk, List.length_map] at this
      exact this
    · obtain ⟨b1, b2⟩ := ok.2 x.1 (by rw [hk]; exact List.mem_map_of_mem hx)
      simp at hm
      rcases hm with e | e <;> subst e <;> omega
    · obtain ⟨us, pu, du⟩ := dq_perm hp hd
      have pw := dq_pw2 (R := fun n m => TS.code (2 ^ 62) n ≤ TS.code (2 ^ 62) m) f.gh du hpw
      have pw3 : us.Pairwise le2 := List.Pairwise.imp_of_mem (fun {x y} hx hy h => code_le2 (ok.2 x (pu.mem_iff.mp hx)) (ok.2 y (pu.mem_iff.mp hy)) h) pw
      have e := sorted2_unique (pu.trans (srt2_perm _).symm) pw3 (srt2_sorted _)
      subst e
      exact k _ _ (ST.newL f c hn du)) hm (by decide +kernel) hg (by decide) (by decide) hs hpl
theorem xi_tkeys {od : Obj} {xs : List X2} (h : XE X iter ρ ρ1 (aV v0)) (hi : Own ρ1 v0 (aTl X.K od xs (tD kvs)) w) : XI X tg iter ρ ρ1 (fun L => ∃ w, Own L v0 (aTl X.K od xs (tD kvs)) w) (tKeys kvs) (fun x => aD X.K (Cd.d x)) := fun E T t σ H l st R k => by
  have rd : ∀ {E : Ent} {T : Cl} {t : L2.St} {L : Cl} {C : L2.St} {H : Hp}, T.length = t.length → (∃ w, Own L v0 (aTl X.K od xs (tD kvs)) w) → ST E (T ++ L) (t ++ C) H → ∃ p G F, v0 = .ref p ∧ H p = some (ObO p od) ∧ TxD od p xs ∧ KT2 X.K G (tD kvs) xs ∧ Frm E G H F ∧ Cs G H (T ++ L) (t ++ C) F := fun {E T t L C H} l hL st => by
    obtain ⟨G, F, f, c⟩ := st
    obtain ⟨w, hL⟩ := hL
    obtain ⟨p, e1, e2, e3, e4⟩ := ST.seeTl l c hL
    exact ⟨p, G, F, e1, e2, e3, e4, f, c⟩
  refine wI.of (pi_keys2 peS) (h E T t σ H l st _ fun v H1 st1 => ?_)
  obtain ⟨G, F, Fv, f, cs, e0, _⟩ := ST.one st1
  have st2 : ST E (T ++ ρ1) (t ++ σ) H1 := ⟨G, F, f, cs⟩
  obtain ⟨p, G', F', e1, h1, td, hk, _, _⟩ := rd l ⟨w, hi⟩ st2
  subst e0 e1
  have hlen : xs.length = (tKeys kvs).length := by
    have := hk.keys
    rw [tKeys_d] at this
    rw [this, List.length_map]
  refine ⟨p, od, xs, rfl, h1, td, k _ E _ (.refl _) st2 ⟨fun n hn T t L C H l ok st => ?_, fun T t L C H l ok st => ?_, fun n x v H H' hx T t L C l ok st y => ?_⟩⟩
  · obtain ⟨p', G2, F2, e1, h1, _, _, _, _⟩ := rd l ok st
    cases e1
    exact ⟨h1, by rw [hlen]; exact hn⟩
  · obtain ⟨p', G2, F2, e1, h1, _, _, _, _⟩ := rd l ok st
    cases e1
    exact ⟨h1, by rw [hlen]; exact Nat.le_refl _⟩
  · obtain ⟨p', G2, F2, e1, h1, _, hk2, f2, c2⟩ := rd l ok st
    cases e1
    obtain ⟨e1, z, e2, e3⟩ := y
    have hd := hk2.dq
    rw [tKeys_d] at hd
    obtain ⟨v', e4, e5⟩ := hd.get (i := n) (d := Cd.d x) (by rw [List.getElem?_map, hx]; rfl)
    rw [List.getElem?_map, e2] at e4
    have e6 : V.ref z.2.1 = v' := Option.some.inj e4
    subst e6 e3 e1
    exact ST.put f2 c2 e5
end
section
variable {X : Cx} {ρ : Cl} {v0 : V} {w : OA → Cl} {ω : Type} {sts : List Stmt} {m : Option ω} {Φ : ω → Ent → Ends → Prop} {kvd : List (I2 × PyData)}
theorem xg_topen (O : Own ρ v0 (aTD X.K kvd) w) (h : ∀ o xs, XG X sts (w (aTl X.K o xs kvd)) m Φ) : XG X sts ρ m Φ := fun r hr E σ H D st q => by
  obtain ⟨G, F, f, c⟩ := st
  obtain ⟨F1, F2, e1, ⟨o, xs, hP⟩, go⟩ := O.get (T := []) (t := []) rfl c
  obtain ⟨F6, e8, c4⟩ := go (.refl _) f.gh (fun b _ o q => q) (B := aTl X.K o xs kvd) (F1' := F1) hP
  exact h o xs r hr E σ H D ⟨G, F6, f.perm (e1.trans e8.symm), c4⟩ q
theorem imp_tl {K : PySem.W.Frag} {o : Obj} {xs : List X2} : Imp (aTl K o xs kvd) (aTD K kvd) := fun q => ⟨o, xs, q⟩
end
section
variable {X : Cx} {ρ ρ1 : Cl} {ρ2 : V → Cl} {a0 : V} {C : List OA → OA} {As : List OA} {w1 : OA → Cl} {w : V → OA → Cl} {e o b : Expr} {pos pos' : Pos} {α : Type} [Cd α] {kvs : List (I2 × α)} {k : I2} {x : α} {ω : Type} {rest : List Stmt} {m : Option ω} {Φ : ω → Ent → Ends → Prop}
theorem xg_tputP (hc : Ctn C) (O1 : Own ρ1 a0 (C As) w1) (j : Nat) (hj : As[j]? = some (aTD X.K (tD kvs))) (hu : X.A.units + 64 < cLine) (hz : kvs.length < 1000000) (he : XE X e ρ ρ1 (aD X.K (Cd.d x))) (ho : ∀ v, XE X o (w1 (C (As.set j (pin v (aTD X.K (tD kvs)))))) (w1 (C (As.set j (pin v (aTD X.K (tD kvs)))))) (aV v)) (hb : ∀ v, XE X b (w1 (C (As.set j (pin v (aTD X.K (tD kvs)))))) (ρ2 v) (aD X.K (Cd.d k))) (O : ∀ v, Own (ρ2 v) v (aTD X.K (tD kvs)) (w v)) (h : ∀ v, XG X rest (w v (aTD X.K (tD (tPut kvs k x)))) m Φ)
    (hs : swapsWith e (some (.Subscript o b pos')) pos.line X.env = pure false := by rfl) : XG X (.Assign [.Subscript o b pos'] e pos :: rest) ρ m Φ := fun r hr E σ H D st q =>
  wS.of (pss_cons (ps_put2 (hu1 hu) peS peS peS hs) pssS) (he E [] [] σ H rfl st _ fun y H1 st1 => by
    obtain ⟨v0, st0⟩ := st_pinC (T := [_]) (t := [_]) rfl st1 hc O1 hj
    refine ho v0 E [_] [_] σ H1 rfl st0 _ fun u H2 st2 => ?_
    have e0 := ST.topV st2
    subst e0
    refine hb u E [_, _] [_, _] σ H2 rfl st2 _ fun i H3 st3 => ?_
    have st4 : ST E (some (aD X.K (Cd.d k)) :: some (aD X.K (Cd.d x)) :: ρ2 u) (some i :: some y :: σ) H3 := ST.drop2 st3
    obtain ⟨G, F, f, c, q1, q2⟩ := ST.top2 st4
    obtain ⟨pb, rfl, sq⟩ := dq2' q2
    obtain ⟨p, od, xs, e1, h1, h2, q3, go⟩ := ST.modT (T := []) (t := []) rfl f c (O u)
    refine ⟨p, od, xs, k, pb, e1, h1, h2, ?_, q3.kys f.gh, rfl, f.gh.st sq, fun o' uu ru td => ?_⟩
    · rw [← Paired.length q3, List.length_map]; exact sz_lt hz
    refine h u r hr E σ _ D ?_ q
    have q5 := go _ _ _ td (q3.put k sq ru q1)
    rw [tPut_d] at q5
    exact q5)
end
end Mr

namespace Mr
open PySem PySem.Spec PyProof.Rows L2
section
variable {α β γ δ : Type}
theorem bsome (a : α) (f : α → Option β) : Option.bind (some a) f = f a := rfl
theorem lett_eq {α β : Type} (v : α) (k : α → β) : lett v k = k v := rfl
theorem foldB_unit {f : Unit → α → Option (γ ⊕ Unit)} : ∀ {xs : List α}, (∀ x, x ∈ xs → f () x = some (.inr ())) → foldB f xs () = some (.inr ())
  | [], _ => rfl
  | x :: xs, h => by
    show thenR (f () x) (foldB f xs) Sum.inl = _
    rw [h x (by simp)]
    exact foldB_unit fun y hy => h y (by simp [hy])
theorem foldB_idx {f : β → α → Option (γ ⊕ β)} (I : Nat → β → Prop) : ∀ {xs : List α} {n : Nat} {s : β}, I n s → (∀ (i : Nat) x s, xs[i]? = some x → I (n + i) s → ∃ s', f s x = some (.inr s') ∧ I (n + i + 1) s') → ∃ s', foldB f xs s = some (.inr s') ∧ I (n + xs.length) s'
  | [], n, s, h, _ => ⟨s, rfl, h⟩
  | x :: xs, n, s, h, k => by
    obtain ⟨s1, e1, h1⟩ := k 0 x s rfl h
    obtain ⟨s2, e2, h2⟩ := foldB_idx I (xs := xs) (n := n + 1) h1 fun i y s hy hs => by
      have e : n + 1 + i = n + (i + 1) := by omega
      rw [e] at hs ⊢
      exact k (i + 1) y s hy hs
    refine ⟨s2, ?_, ?_⟩
    · show thenR (f s x) (foldB f xs) Sum.inl = _
      rw [e1]
      exact e2
    · have e : n + (x :: xs).length = n + 1 + xs.length := by simp; omega
      rw [e]; exact h2
theorem thenR_r {m : Option (γ ⊕ β)} {k : β → Option δ} {f : γ → δ} {s : β} (h : m = some (.inr s)) : thenR m k f = k s := by rw [h]; rfl
theorem divM_some {i j : Int} (h : DivOk j) : divM i j = some (i / j) := by unfold divM; rw [if_pos h]
theorem modM_some {i j : Int} (h : 0 < j) : modM i j = some (i % j) := by unfold modM; rw [if_pos h]
theorem guardO_some {p : Prop} [Decidable p] (h : p) : guardO p = some () := by unfold guardO; rw [if_pos h]
theorem atI_nn {xs : List α} {i : Int} (h : 0 ≤ i) : atI xs i = xs[i.toNat]? := by
  unfold atI ixN
  rw [if_pos h]
  by_cases hl : i < xs.length
  · rw [if_pos hl]; rfl
  · rw [if_neg hl, List.getElem?_eq_none (by omega)]; rfl
theorem atI_lt {xs : List α} {i : Int} (h : 0 ≤ i) (h2 : i < xs.length) : ∃ x, atI xs i = some x ∧ x ∈ xs := by
  rw [atI_nn h]
  have hl : i.toNat < xs.length := by omega
  exact ⟨xs[i.toNat], List.getElem?_eq_getElem hl, List.getElem_mem hl⟩
inductive F2 (R : α → β → Prop) : List α → List β → Prop
  | nil : F2 R [] []
  | cons {x : α} {y : β} {xs : List α} {ys : List β} : R x y → F2 R xs ys → F2 R (x :: xs) (y :: ys)
theorem F2.append {R : α → β → Prop} : ∀ {xs us : List α} {ys vs : List β}, F2 R xs ys → F2 R us vs → F2 R (xs ++ us) (ys ++ vs)
  | _, _, _, _, .nil, h => h
  | _, _, _, _, .cons r t, h => .cons r (t.append h)
theorem F2.len {R : α → β → Prop} : ∀ {xs : List α} {ys : List β}, F2 R xs ys → xs.length = ys.length
  | _, _, .nil => rfl
  | _, _, .cons _ t => congrArg (· + 1) t.len
theorem mapL_some {f : α → Option δ} {g : α → δ} : ∀ {xs : List α}, (∀ x ∈ xs, f x = some (g x)) → mapL f xs = some (xs.map g)
  | [], _ => rfl
  | x :: xs, h => by
    unfold mapL
    rw [h x (by simp), mapL_some fun y hy => h y (by simp [hy])]
    rfl
theorem mapO_some {f : α → Option δ} {g : α → δ} {xs : List α} (hl : xs.length ≤ 1000000) (h : ∀ x ∈ xs, f x = some (g x)) : mapO f xs = some (xs.map g) := by
  unfold mapO
  rw [if_pos hl, mapL_some h]
end
theorem thenR_idx {α β γ δ : Type} {f : β → α → Option (γ ⊕ β)} {xs : List α} {s0 : β} {k : β → Option δ} {g : γ → δ} {r : δ} (I : Nat → β → Prop) (h0 : I 0 s0) (hs : ∀ (i : Nat) x s, xs[i]? = some x → I i s → ∃ s', f s x = some (.inr s') ∧ I (i + 1) s') (he : ∀ s, I xs.length s → k s = some r) : thenR (foldB f xs s0) k g = some r := by
  obtain ⟨s, e, hI⟩ := foldB_idx (f := f) I (xs := xs) (n := 0) (s := s0) h0 fun i x s hx h => by
    rw [Nat.zero_add] at h
    rw [Nat.zero_add]
    exact hs i x s hx h
  rw [Nat.zero_add] at hI
  rw [thenR_r e, he s hI]
section
variable {α : Type}
theorem dGet_has {l : List (Int × α)} {k : Int} (h : dHas l k = true) : ∃ v, dGet l k = some v := by
  unfold dHas at h
  cases q : dGet l k with
  | none => rw [q] at h; cases h
  | some v => exact ⟨v, rfl⟩
theorem dHas_mem {l : List (Int × α)} {k : Int} : dHas l k = true ↔ k ∈ dKeys l := by
  induction l with
  | nil => simp [dHas, dGet, dKeys]
  | cons p l ih =>
    obtain ⟨k', v⟩ := p
    unfold dHas dGet dKeys at *
    by_cases e : k' = k
    · simp [List.find?_cons, e]
    · have e' : ¬ k = k' := fun q => e q.symm
      simp [List.find?_cons, e, e'] at ih ⊢
      try exact ih
theorem dGet_put {l : List (Int × α)} {k j : Int} {v : α} : dGet (dPut l k v) j = if j = k then some v else dGet l j := by
  have key : ∀ l : List (Int × α), dGet (l.map fun kv => if kv.1 = k then (kv.1, v) else kv) j = if j = k then (dGet l k).map fun _ => v else dGet l j := fun l => by
    induction l with
    | nil => simp [dGet]
    | cons p l ih =>
      obtain ⟨k', w⟩ := p
      unfold dGet at *
      rw [List.map_cons, List.find?_cons, List.find?_cons, List.find?_cons]
      by_cases e : k' = k
      · subst e
        by_cases q : j = k'
        · subst q; simp
        · have : ¬ k' = j := fun z => q z.symm
          simp only [if_true, decide_eq_false this, if_neg q] at ih ⊢
          exact ih
      · by_cases q : k' = j
        · subst q
          simp [e]
        · simp only [if_neg e, decide_eq_false q, decide_eq_false e] at ih ⊢
          exact ih
  unfold dPut
  split
  · rename_i h
    rw [key]
    by_cases q : j = k
    · rw [if_pos q, if_pos q]
      have : (dGet l k).isSome = true := by
        obtain ⟨p, hp, he⟩ := List.any_eq_true.mp h
        have : k ∈ dKeys l := List.mem_map.mpr ⟨p, hp, of_decide_eq_true he⟩
        exact dHas_mem.mpr this
      cases z : dGet l k with
      | none => rw [z] at this; cases this
      | some _ => rfl
    · rw [if_neg q, if_neg q]
  · rename_i h
    unfold dGet
    rw [List.find?_append]
    by_cases q : j = k
    · subst q
      have : l.find? (fun kv => decide (kv.1 = j)) = none := List.find?_eq_none.mpr fun p hp hd => h (List.any_eq_true.mpr ⟨p, hp, hd⟩)
      rw [this]
      simp
    · have : ¬ k = j := fun z => q z.symm
      rw [if_neg q]
      simp [this]
theorem dKeys_put_new {l : List (Int × α)} {k : Int} {v : α} (h : dHas l k = false) : dPut l k v = l ++ [(k, v)] := by
  unfold dPut
  rw [if_neg]
  intro q
  obtain ⟨p, hp, he⟩ := List.any_eq_true.mp q
  have : dHas l k = true := dHas_mem.mpr (List.mem_map.mpr ⟨p, hp, of_decide_eq_true he⟩)
  rw [h] at this
  cases this
end
theorem nodup_le : ∀ (n : Nat) (a : Int) (l : List Int), l.Nodup → (∀ x ∈ l, a ≤ x ∧ x < a + n) → l.length ≤ n
  | 0, a, [], _, _ => by simp
  | 0, a, x :: l, _, h => by have := h x (by simp); omega
  | n + 1, a, l, nd, h => by
    by_cases q : a + n ∈ l
    · have h1 := nodup_le n a (l.erase (a + n)) (nd.erase _) fun x hx => by
        have hx := nd.mem_erase_iff.mp hx
        have := h x hx.2
        have := hx.1
        omega
      rw [List.length_erase_of_mem q] at h1
      omega
    · have h1 := nodup_le n a l nd fun x hx => by
        have := h x hx
        have : x ≠ a + n := fun e => q (e ▸ hx)
        omega
      omega
structure Dct {α : Type} (P : Int → α) (K : Int → Prop) (d : List (Int × α)) : Prop where
  nd : (dKeys d).Nodup
  val : ∀ k v, dGet d k = some v → v = P k
  has : ∀ k, dHas d k = true ↔ K k
namespace Dct
variable {α : Type} {P : Int → α} {K : Int → Prop} {d : List (Int × α)}
theorem empty : Dct P (fun _ => False) ([] : List (Int × α)) := ⟨.nil, fun k v h => by simp [dGet] at h, fun k => by simp [dHas, dGet]⟩
theorem congr (D : Dct P K d) {Q : Int → α} {L : Int → Prop} (hp : ∀ k, K k → P k = Q k) (h : ∀ k, K k ↔ L k) : Dct Q L d :=
  ⟨D.nd, fun k v e => (D.val k v e).trans (hp k ((D.has k).mp (by unfold dHas; rw [e]; rfl))), fun k => (D.has k).trans (h k)⟩
theorem get (D : Dct P K d) {k : Int} (h : K k) : dGet d k = some (P k) := by
  obtain ⟨v, e⟩ := dGet_has ((D.has k).mpr h)
  rw [e, D.val k v e]
theorem mem (D : Dct P K d) {k : Int} : k ∈ dKeys d ↔ K k := dHas_mem.symm.trans (D.has k)
theorem not (D : Dct P K d) {k : Int} (h : ¬ K k) : dHas d k = false := by
  cases q : dHas d k with
  | false => rfl
  | true => exact absurd ((D.has k).mp q) h
theorem put (D : Dct P K d) {c : Int} {v : α} (h : ¬ K c) (ev : v = P c) : Dct P (fun k => K k ∨ k = c) (dPut d c v) := by
  have hp := dKeys_put_new (v := v) (D.not h)
  refine ⟨?_, fun k w hg => ?_, fun k => ?_⟩
  · rw [hp]
    unfold dKeys
    rw [List.map_append]
    refine List.nodup_append.mpr ⟨D.nd, by simp, fun a ha b hb e => ?_⟩
    have hb : b = c := by simpa using hb
    subst e hb
    exact h (D.mem.mp ha)
  · rw [dGet_put] at hg
    by_cases e : k = c
    · subst e
      rw [if_pos rfl] at hg
      exact (Option.some.inj hg).symm.trans ev
    · rw [if_neg e] at hg
      exact D.val k w hg
  · have : dHas (dPut d c v) k = true ↔ (k = c ∨ dHas d k = true) := by
      unfold dHas
      rw [dGet_put]
      by_cases e : k = c
      · simp [e]
      · simp [e]
    rw [this, D.has]
    exact Or.comm
theorem len (D : Dct P K d) {a : Int} {n : Nat} (h : ∀ k, K k → a ≤ k ∧ k < a + n) : d.length ≤ n := by
  have := nodup_le n a (dKeys d) D.nd fun x hx => h x (D.mem.mp hx)
  unfold dKeys at this
  rwa [List.length_map] at this
end Dct
theorem F2.get {α β : Type} {R : α → β → Prop} : ∀ {xs : List α} {ys : List β} {i : Nat} {x : α}, F2 R xs ys → xs[i]? = some x → ∃ y, ys[i]? = some y ∧ R x y
  | _, _, i, _, .nil, h => by simp at h
  | _, _, 0, _, .cons r t, h => by
    have := Option.some.inj (by simpa using h)
    subst this
    exact ⟨_, rfl, r⟩
  | _, _, i + 1, _, .cons r t, h => F2.get (i := i) t (by simpa using h)
end Mr

namespace MyLaw
open PySem PySem.Spec PyProof.Rows L2 Mr
def topS (i : Nat) : Stmt := PySem.Challenge.pw_bearerwise_k39_bills.main.body.getD i (.Pass ⟨0, 0, 0, 0⟩)

structure CLs where
  cl_Meter : Addr
  cl_Biller : Addr

structure M_Meter where
  sums : (List ((Int × Int) × Int))
  serial : Int
  letter : (Option (Int × (Tu (T3 Int Int Int))))
  answered : Int
  is_written : Bool
abbrev ns_Meter : List Str := ["sums", "serial", "letter", "answered", "is_written"]
theorem nd_Meter : ns_Meter.Nodup := by decide +kernel
structure CF_Meter (K : PySem.W.Frag) (C : Addr) : Prop where
  cl : Cls K C
  n_sums : NoAttr K C "sums"
  n_serial : NoAttr K C "serial"
  n_letter : NoAttr K C "letter"
  n_answered : NoAttr K C "answered"
  n_is_written : NoAttr K C "is_written"
theorem nm_Meter_metered : ("metered" : Str) ∉ ns_Meter := by decide +kernel
theorem nm_Meter_add : ("add" : Str) ∉ ns_Meter := by decide +kernel
theorem nm_Meter_write : ("write" : Str) ∉ ns_Meter := by decide +kernel
theorem nm_Meter_last : ("last" : Str) ∉ ns_Meter := by decide +kernel
theorem nm_Meter_take : ("take" : Str) ∉ ns_Meter := by decide +kernel
theorem nm_Meter_is_settled : ("is_settled" : Str) ∉ ns_Meter := by decide +kernel
abbrev o_Meter (K : PySem.W.Frag) (cL : CLs) (x : M_Meter) : OA := aObj cL.cl_Meter ns_Meter [(aTD K (tD (x.sums : (List ((Int × Int) × Int))))), (aD K (Cd.d (x.serial : Int))), (aD K (Cd.d (x.letter : (Option (Int × (Tu (T3 Int Int Int))))))), (aD K (Cd.d (x.answered : Int))), (aD K (Cd.d (x.is_written : Bool)))]
structure M_Biller where
  serial : Int
  rows : (Tu (T3 Int Int Int))
abbrev ns_Biller : List Str := ["serial", "rows"]
theorem nd_Biller : ns_Biller.Nodup := by decide +kernel
structure CF_Biller (K : PySem.W.Frag) (C : Addr) : Prop where
  cl : Cls K C
  n_serial : NoAttr K C "serial"
  n_rows : NoAttr K C "rows"
theorem nm_Biller_take : ("take" : Str) ∉ ns_Biller := by decide +kernel
theorem nm_Biller_bill : ("bill" : Str) ∉ ns_Biller := by decide +kernel
abbrev o_Biller (K : PySem.W.Frag) (cL : CLs) (x : M_Biller) : OA := aObj cL.cl_Biller ns_Biller [(aD K (Cd.d (x.serial : Int))), (aD K (Cd.d (x.rows : (Tu (T3 Int Int Int)))))]
structure HXs (K : PySem.W.Frag) (mg : Str → Option Value) (cL : CLs) : Prop where
  T_Meter : CF_Meter K cL.cl_Meter
  T_Biller : CF_Biller K cL.cl_Biller
def m_Meter___init__  : Option M_Meter :=
  (lett ((none : (Option (Int × (Tu (T3 Int Int Int))))) : (Option (Int × (Tu (T3 Int Int Int))))) fun letter_1 =>
  (some (M_Meter.mk ([] : (List ((Int × Int) × Int))) 0 letter_1 0 true)))
abbrev sp_Meter___init__ (K : PySem.W.Frag) (cL : CLs) : Sp := SpM (fun x : Unit => [aObj cL.cl_Meter [] []]) (fun x => m_Meter___init__ ) (fun x (r : M_Meter) => [some (o_Meter K cL r)]) (fun _ r => aD K .none)
abbrev s_Meter___init__ : Stmt := inClass (topS 1) 0
theorem sc_Meter___init__ : FnScope ["self"] ["self"] (defScope s_Meter___init__) := ⟨rfl, rfl, rfl, by decide +kernel, rfl, by decide +kernel, by decide +kernel⟩
set_option maxHeartbeats 4000000 in
theorem ok_Meter___init__ {P : Program} {w : World} {K : PySem.W.Frag} {mg : Str → Option Value} {base : Heap} {f : Addr} {cL : CLs} {fd : FuncData} (F : Fun K "__init__" "Meter.__init__" s_Meter___init__ f fd) (HX : HXs K mg cL) : FnOk P w K mg base CX0 1 f fd ["self"] (sp_Meter___init__ K cL) :=
  fn_okN (k := 0) [true] F sc_Meter___init__ rfl (fun _ => rfl) (fun _ _ => rfl) fun x vs cdv A outer s H E hv hr => by
    match x, vs, hv with
    | (), [pa0], _ =>
      have nd := sc_Meter___init__.nd
      show XG _ _ [some (pin pa0 (aObj cL.cl_Meter [] []))] (m_Meter___init__ ) (oS fun r : M_Meter => [some (pin pa0 (o_Meter K cL r))])
      unfold m_Meter___init__
      exact (xg_st [some (pin pa0 (aObj cL.cl_Meter [] []))] rfl (xg_fldN (B := (aTD K (tD (([] : (List ((Int × Int) × Int))) : (List ((Int × Int) × Int)))))) (xe_tnew (α := Int)) (xe_nmV 0 rfl) (Own.slot 0 rfl) HX.T_Meter.cl HX.T_Meter.n_sums (by decide +kernel) (xg_st [some (pin pa0 (aObj cL.cl_Meter ["sums"] [(aTD K (tD (([] : (List ((Int × Int) × Int))) : (List ((Int × Int) × Int)))))]))] rfl (xg_fldN (B := (aD K (Cd.d (0 : Int)))) xe_int (xe_nmV 0 rfl) (Own.slot 0 rfl) HX.T_Meter.cl HX.T_Meter.n_serial (by decide +kernel) (xg_st [some (pin pa0 (aObj cL.cl_Meter ["sums", "serial"] [(aTD K (tD (([] : (List ((Int × Int) × Int))) : (List ((Int × Int) × Int))))), (aD K (Cd.d (0 : Int)))]))] rfl (xg_lett fun letter_1 hletter_1 =>
  (xg_fldN (B := (aD K (Cd.d (letter_1 : (Option (Int × (Tu (T3 Int Int Int)))))))) (xe_nv (v := ((none : (Option (Int × (Tu (T3 Int Int Int))))) : (Option (Int × (Tu (T3 Int Int Int)))))) (xe_is (B := aD K (Cd.d (none : (Option (Int × (Tu (T3 Int Int Int))))))) xe_non rfl) hletter_1) (xe_nmV 0 rfl) (Own.slot 0 rfl) HX.T_Meter.cl HX.T_Meter.n_letter (by decide +kernel) (xg_st [some (pin pa0 (aObj cL.cl_Meter ["sums", "serial", "letter"] [(aTD K (tD (([] : (List ((Int × Int) × Int))) : (List ((Int × Int) × Int))))), (aD K (Cd.d (0 : Int))), (aD K (Cd.d (letter_1 : (Option (Int × (Tu (T3 Int Int Int)))))))]))] rfl (xg_fldN (B := (aD K (Cd.d (0 : Int)))) xe_int (xe_nmV 0 rfl) (Own.slot 0 rfl) HX.T_Meter.cl HX.T_Meter.n_answered (by decide +kernel) (xg_st [some (pin pa0 (aObj cL.cl_Meter ["sums", "serial", "letter", "answered"] [(aTD K (tD (([] : (List ((Int × Int) × Int))) : (List ((Int × Int) × Int))))), (aD K (Cd.d (0 : Int))), (aD K (Cd.d (letter_1 : (Option (Int × (Tu (T3 Int Int Int))))))), (aD K (Cd.d (0 : Int)))]))] rfl (xg_fldN (B := (aD K (Cd.d (true : Bool)))) xe_bl (xe_nmV 0 rfl) (Own.slot 0 rfl) HX.T_Meter.cl HX.T_Meter.n_is_written (by decide +kernel) (xg_st [some (pin pa0 (o_Meter K cL (M_Meter.mk ([] : (List ((Int × Int) × Int))) 0 letter_1 0 true)))] rfl (xg_nilS (wk_k wk_0))))))))))))))
def m_Meter_metered (self : M_Meter) (bearer : Int) (way : Int) : Option Int :=
  (some (Option.getD (tGet self.sums (((bearer : Int), (way : Int)) : Int × Int)) 0))
abbrev sp_Meter_metered (K : PySem.W.Frag) (cL : CLs) : Sp := SpM (fun x : (M_Meter × Int × Int) => [(o_Meter K cL x.1), (aD K (Cd.d (x.2.1 : Int))), (aD K (Cd.d (x.2.2 : Int)))]) (fun x => m_Meter_metered x.1 x.2.1 x.2.2) (fun x (r : Int) => [some (o_Meter K cL x.1), none, none]) (fun _ r => (aD K (Cd.d (r : Int))))
abbrev s_Meter_metered : Stmt := inClass (topS 1) 2
theorem sc_Meter_metered : FnScope ["self", "bearer", "way"] ["self", "bearer", "way"] (defScope s_Meter_metered) := ⟨rfl, rfl, rfl, by decide +kernel, rfl, by decide +kernel, by decide +kernel⟩
set_option maxHeartbeats 4000000 in
theorem ok_Meter_metered {P : Program} {w : World} {K : PySem.W.Frag} {mg : Str → Option Value} {base : Heap} {f : Addr} {cL : CLs} {fd : FuncData} (F : Fun K "metered" "Meter.metered" s_Meter_metered f fd) (HX : HXs K mg cL) : FnOk P w K mg base CX0 1 f fd ["self", "bearer", "way"] (sp_Meter_metered K cL) :=
  fn_ok (k := 0) [true, false, false] F sc_Meter_metered rfl (fun _ => rfl) (fun _ _ => rfl) fun x vs cdv A outer s H E hv hr => by
    match x, vs, hv with
    | (self, bearer, way), [pa0, pa1, pa2], _ =>
      have nd := sc_Meter_metered.nd
      show XG _ _ [some (pin pa0 (o_Meter K cL self)), some (aD K (Cd.d (bearer : Int))), some (aD K (Cd.d (way : Int)))] (m_Meter_metered self bearer way) (oR fun r : Int => [some ((aD K (Cd.d (r : Int)))), some (pin pa0 (o_Meter K cL self)), none, none])
      unfold m_Meter_metered
      exact (xg_pinC ctnO (Own.slot 0 rfl) 0 rfl fun pv_2 => (xg_st [some (pin pa0 (aObj cL.cl_Meter ns_Meter [(pin pv_2 (aTD K (tD (self.sums : (List ((Int × Int) × Int)))))), (aD K (Cd.d (self.serial : Int))), (aD K (Cd.d (self.letter : (Option (Int × (Tu (T3 Int Int Int))))))), (aD K (Cd.d (self.answered : Int))), (aD K (Cd.d (self.is_written : Bool)))])), some (aD K (Cd.d (bearer : Int))), some (aD K (Cd.d (way : Int)))] rfl (xg_ret (A := (aD K (Cd.d ((Option.getD (tGet self.sums (((bearer : Int), (way : Int)) : Int × Int)) 0) : Int)))) (xe_weak (ρ1 := [some (pin pa0 (aObj cL.cl_Meter ns_Meter [(pin pv_2 (aTD K (tD (self.sums : (List ((Int × Int) × Int)))))), (aD K (Cd.d (self.serial : Int))), (aD K (Cd.d (self.letter : (Option (Int × (Tu (T3 Int Int Int))))))), (aD K (Cd.d (self.answered : Int))), (aD K (Cd.d (self.is_written : Bool)))])), some (aD K (Cd.d (bearer : Int))), some (aD K (Cd.d (way : Int)))]) (B' := (pin pa0 (o_Meter K cL self))) (xe_stE [some (pin pa0 (aObj cL.cl_Meter ns_Meter [(pin pv_2 (aTD K (tD (self.sums : (List ((Int × Int) × Int)))))), (aD K (Cd.d (self.serial : Int))), (aD K (Cd.d (self.letter : (Option (Int × (Tu (T3 Int Int Int))))))), (aD K (Cd.d (self.answered : Int))), (aD K (Cd.d (self.is_written : Bool)))])), some (aD K (Cd.d (bearer : Int))), some (aD K (Cd.d (way : Int)))] (by exact (xe_tget2 (kvs0 := self.sums) (kvs := self.sums) (k := (((bearer : Int), (way : Int)) : Int × Int)) (x := 0) hr.units (xe_fldV 0 (xe_nmV 0 rfl) (Own.slot 0 rfl) HX.T_Meter.cl HX.T_Meter.n_sums nd_Meter rfl rfl) (Own.kid ctnO (Own.slot 0 rfl) 0 rfl) (xe_tup (ds := [Cd.d (bearer : Int), Cd.d (way : Int)]) (xa_cons (xe_nm 1 rfl) (xa_cons (xe_nm 2 rfl) xa_nil)) (Nat.le_of_ble_eq_true rfl)) xe_int (Own.kid ctnO (Own.slot 0 rfl) 0 rfl) ⟨rfl, rfl, rfl, rfl⟩))) 0 rfl (imp_pin (imp_obj (.cons (imp_pinned imp_rfl) (.cons imp_rfl (.cons imp_rfl (.cons imp_rfl (.cons imp_rfl .nil)))))))) (wk_k (wk_k (wk_n (wk_n wk_0)))))))
def m_Meter_add (self : M_Meter) (bearer : Int) (way : Int) (size : Int) : Option M_Meter :=
  (Option.bind (m_Meter_metered self bearer way) fun v_4 =>
  (Option.bind (guardO (List.length self.sums < 1000000)) fun g_6 =>
  (lett ((v_4 + size) : Int) fun e_7 =>
  (some { self with sums := (tPut self.sums (((bearer : Int), (way : Int)) : Int × Int) e_7), is_written := false }))))
abbrev sp_Meter_add (K : PySem.W.Frag) (cL : CLs) : Sp := SpM (fun x : (M_Meter × Int × Int × Int) => [(o_Meter K cL x.1), (aD K (Cd.d (x.2.1 : Int))), (aD K (Cd.d (x.2.2.1 : Int))), (aD K (Cd.d (x.2.2.2 : Int)))]) (fun x => m_Meter_add x.1 x.2.1 x.2.2.1 x.2.2.2) (fun x (r : M_Meter) => [some (o_Meter K cL r), none, none, none]) (fun _ r => aD K .none)
abbrev s_Meter_add : Stmt := inClass (topS 1) 1
theorem sc_Meter_add : FnScope ["self", "bearer", "way", "size"] ["self", "bearer", "way", "size"] (defScope s_Meter_add) := ⟨rfl, rfl, rfl, by decide +kernel, rfl, by decide +kernel, by decide +kernel⟩
set_option maxHeartbeats 4000000 in
theorem ok_Meter_add {P : Program} {w : World} {K : PySem.W.Frag} {mg : Str → Option Value} {base : Heap} {f : Addr} {cL : CLs} {fd : FuncData} (F : Fun K "add" "Meter.add" s_Meter_add f fd) (HX : HXs K mg cL) (c_Meter_metered : CalM P w K mg base 1 cL.cl_Meter "metered" (sp_Meter_metered K cL)) : FnOk P w K mg base CX0 2 f fd ["self", "bearer", "way", "size"] (sp_Meter_add K cL) :=
  fn_okN (k := 1) [true, false, false, false] F sc_Meter_add rfl (fun _ => rfl) (fun _ _ => rfl) fun x vs cdv A outer s H E hv hr => by
    match x, vs, hv with
    | (self, bearer, way, size), [pa0, pa1, pa2, pa3], _ =>
      have nd := sc_Meter_add.nd
      show XG _ _ [some (pin pa0 (o_Meter K cL self)), some (aD K (Cd.d (bearer : Int))), some (aD K (Cd.d (way : Int))), some (aD K (Cd.d (size : Int)))] (m_Meter_add self bearer way size) (oS fun r : M_Meter => [some (pin pa0 (o_Meter K cL r)), none, none, none])
      unfold m_Meter_add
      exact (xg_pinC ctnO (Own.slot 0 rfl) 0 rfl fun pv_3 => (xg_st [some (pin pa0 (aObj cL.cl_Meter ns_Meter [(pin pv_3 (aTD K (tD (self.sums : (List ((Int × Int) × Int)))))), (aD K (Cd.d (self.serial : Int))), (aD K (Cd.d (self.letter : (Option (Int × (Tu (T3 Int Int Int))))))), (aD K (Cd.d (self.answered : Int))), (aD K (Cd.d (self.is_written : Bool)))])), some (aD K (Cd.d (bearer : Int))), some (aD K (Cd.d (way : Int))), some (aD K (Cd.d (size : Int)))] rfl (xg_bind fun v_4 hv_4 =>
  (xg_bind fun g_6 hg_6 =>
  (xg_lett fun e_7 he_7 =>
  (xg_tputP ctnO (Own.slot 0 rfl) 0 rfl (kvs := self.sums) (k := (((bearer : Int), (way : Int)) : Int × Int)) (x := e_7) hr.units (guardO_eq hg_6) (xe_nv (v := ((v_4 + size) : Int)) (xe_add (xe_methX (xx := (self, bearer, way)) c_Meter_metered HX.T_Meter.cl nm_Meter_metered (hr.mono (by decide)) hv_4 (xe_nmV 0 rfl) (Own.slot 0 rfl) (xx_of (xa_cons (xe_nm 1 rfl) (xa_cons (xe_nm 2 rfl) xa_nil))) (Own.weak (Own.slot 0 rfl) (imp_obj (.cons (imp_pinned imp_rfl) (.cons imp_rfl (.cons imp_rfl (.cons imp_rfl (.cons imp_rfl .nil))))))) rfl rfl rfl rfl (Fill.cons 0 (List.Mem.head _) rfl (Own.slot 0 rfl) Fill.nil)) (xe_nm 3 rfl)) he_7) (fun pv_5 => (xe_fldV 0 (xe_nmV 0 rfl) (Own.slot 0 rfl) HX.T_Meter.cl HX.T_Meter.n_sums nd_Meter rfl rfl)) (fun pv_5 => (xe_tup (ds := [Cd.d (bearer : Int), Cd.d (way : Int)]) (xa_cons (xe_nm 1 rfl) (xa_cons (xe_nm 2 rfl) xa_nil)) (Nat.le_of_ble_eq_true rfl))) (fun pv_5 => (Own.kid ctnO (Own.slot 0 rfl) 0 rfl)) (fun pv_5 => (by exact xg_weak (ρ := [some (pin pa0 (aObj cL.cl_Meter ns_Meter [(pin pv_5 (aTD K (tD ((tPut self.sums (((bearer : Int), (way : Int)) : Int × Int) e_7) : (List ((Int × Int) × Int)))))), (aD K (Cd.d (self.serial : Int))), (aD K (Cd.d (self.letter : (Option (Int × (Tu (T3 Int Int Int))))))), (aD K (Cd.d (self.answered : Int))), (aD K (Cd.d (self.is_written : Bool)))])), some (aD K (Cd.d (bearer : Int))), some (aD K (Cd.d (way : Int))), some (aD K (Cd.d (size : Int)))]) (B := (pin pa0 (o_Meter K cL { self with sums := (tPut self.sums (((bearer : Int), (way : Int)) : Int × Int) e_7) }))) 0 rfl (imp_pin (imp_obj (.cons (imp_pinned imp_rfl) (.cons imp_rfl (.cons imp_rfl (.cons imp_rfl (.cons imp_rfl .nil))))))) (xg_st [some (pin pa0 (o_Meter K cL { self with sums := (tPut self.sums (((bearer : Int), (way : Int)) : Int × Int) e_7) })), some (aD K (Cd.d (bearer : Int))), some (aD K (Cd.d (way : Int))), some (aD K (Cd.d (size : Int)))] rfl (xg_fld 4 (B := (aD K (Cd.d (false : Bool)))) xe_bl (xe_nmV 0 rfl) (Own.slot 0 rfl) HX.T_Meter.cl HX.T_Meter.n_is_written nd_Meter rfl (xg_st [some (pin pa0 (o_Meter K cL { self with sums := (tPut self.sums (((bearer : Int), (way : Int)) : Int × Int) e_7), is_written := false })), some (aD K (Cd.d (bearer : Int))), some (aD K (Cd.d (way : Int))), some (aD K (Cd.d (size : Int)))] rfl (xg_nilS (wk_k (wk_n (wk_n (wk_n wk_0))))))))))))))))
def m_Meter_write (self : M_Meter) : Option ((Int × (Tu (T3 Int Int Int))) × M_Meter) :=
  (Option.bind (guardO (Ok2 (tKeys self.sums))) fun g_9 =>
  (Option.bind (mapO (fun q_10 : (Int × Int) => (Option.bind (tGet self.sums (((q_10.1 : Int), (q_10.2 : Int)) : Int × Int)) fun d_12 => (some (T3.mk q_10.1 q_10.2 d_12)))) (srt2 (tKeys self.sums))) fun ys_13 =>
  (lett ((some (((self.serial + 1) : Int), ((Tu.mk ys_13 : (Tu (T3 Int Int Int))) : (Tu (T3 Int Int Int))))) : (Option (Int × (Tu (T3 Int Int Int))))) fun letter_14 =>
  (Option.bind (letter_14) fun u_15 =>
  (some (u_15, { self with serial := (self.serial + 1), letter := letter_14, is_written := true }))))))
abbrev sp_Meter_write (K : PySem.W.Frag) (cL : CLs) : Sp := SpM (fun x : M_Meter => [(o_Meter K cL x)]) (fun x => m_Meter_write x) (fun x (r : ((Int × (Tu (T3 Int Int Int))) × M_Meter)) => [some (o_Meter K cL r.2)]) (fun _ r => (aD K (Cd.d (r.1 : (Int × (Tu (T3 Int Int Int)))))))
abbrev s_Meter_write : Stmt := inClass (topS 1) 3
theorem sc_Meter_write : FnScope ["self", "rows", "bearer", "way"] ["self"] (defScope s_Meter_write) := ⟨rfl, rfl, rfl, by decide +kernel, rfl, by decide +kernel, by decide +kernel⟩
set_option maxHeartbeats 4000000 in
theorem ok_Meter_write {P : Program} {w : World} {K : PySem.W.Frag} {mg : Str → Option Value} {base : Heap} {f : Addr} {cL : CLs} {fd : FuncData} (F : Fun K "write" "Meter.write" s_Meter_write f fd) (HX : HXs K mg cL)(m_sorted : mg "sorted" = none) (m_tuple : mg "tuple" = none) : FnOk P w K mg base CX0 1 f fd ["self"] (sp_Meter_write K cL) :=
  fn_ok (k := 0) [true] F sc_Meter_write rfl (fun _ => rfl) (fun _ _ => rfl) fun x vs cdv A outer s H E hv hr => by
    match x, vs, hv with
    | self, [pa0], _ =>
      have nd := sc_Meter_write.nd
      show XG _ _ [some (pin pa0 (o_Meter K cL self)), none, none, none] (m_Meter_write self) (oR fun r : ((Int × (Tu (T3 Int Int Int))) × M_Meter) => [some ((aD K (Cd.d (r.1 : (Int × (Tu (T3 Int Int Int))))))), some (pin pa0 (o_Meter K cL r.2)), none, none, none])
      unfold m_Meter_write
      exact (xg_st [some (pin pa0 (o_Meter K cL self)), none, none, none] rfl (xg_fldA 1 in_add rAdd_of (xe_nmV 0 rfl) (Own.slot 0 rfl) rfl xe_int (Own.slot 0 rfl) HX.T_Meter.cl HX.T_Meter.n_serial nd_Meter rfl (xg_pinC ctnO (Own.slot 0 rfl) 0 rfl fun pv_8 => (xg_st [some (pin pa0 (aObj cL.cl_Meter ns_Meter [(pin pv_8 (aTD K (tD (self.sums : (List ((Int × Int) × Int)))))), (aD K (Cd.d ((self.serial + 1) : Int))), (aD K (Cd.d (self.letter : (Option (Int × (Tu (T3 Int Int Int))))))), (aD K (Cd.d (self.answered : Int))), (aD K (Cd.d (self.is_written : Bool)))])), none, none, none] rfl (xg_bind fun g_9 hg_9 =>
  (xg_bind fun ys_13 hys_13 =>
  (xg_asgLcT (j := 1) (own := [("bearer", 2), ("way", 3)]) (xct_frz (xct_imp (xct_mapO (is := [2, 3]) (N := [some (pin pa0 (aObj cL.cl_Meter ns_Meter [(pin pv_8 (aTD K (tD (self.sums : (List ((Int × Int) × Int)))))), (aD K (Cd.d ((self.serial + 1) : Int))), (aD K (Cd.d (self.letter : (Option (Int × (Tu (T3 Int Int Int))))))), (aD K (Cd.d (self.answered : Int))), (aD K (Cd.d (self.is_written : Bool)))])), none, none, none]) (dv := (fun q_10 : (Int × Int) => [Cd.d q_10.1, Cd.d q_10.2])) hys_13 (xi_list (xs := (srt2 (tKeys self.sums))) (cv := Cd.d) (xe_frz (xe_tsorted (kvs := self.sums) (guardO_eq hg_9) rfl (xe_fldV 0 (xe_nmV 0 rfl) (Own.slot 0 rfl) HX.T_Meter.cl HX.T_Meter.n_sums nd_Meter rfl rfl) (Own.kid ctnO (Own.slot 0 rfl) 0 rfl) m_sorted))) rfl trivial (show ∀ i ∈ [2, 3], i < 4 from by decide) rfl (fun _ => rfl) (fun _ => rfl) (el := fun y => (aD K (Cd.d (y : (T3 Int Int Int))))) (fun _ _ _ _ _ q_10 => (xem_bind fun d_12 hd_12 => (xem_some (xe_tup (ds := [Cd.d (q_10.1 : Int), Cd.d (q_10.2 : Int), Cd.d (d_12 : Int)]) (xa_cons (xe_nm 2 rfl) (xa_cons (xe_nm 3 rfl) (xa_cons (xe_tget (kvs := self.sums) (k := (((q_10.1 : Int), (q_10.2 : Int)) : Int × Int)) hr.units hd_12 (xe_fldV 0 (xe_nmV 0 rfl) (Own.slot 0 rfl) HX.T_Meter.cl HX.T_Meter.n_sums nd_Meter rfl rfl) (xe_tup (ds := [Cd.d (q_10.1 : Int), Cd.d (q_10.2 : Int)]) (xa_cons (xe_nm 2 rfl) (xa_cons (xe_nm 3 rfl) xa_nil)) (Nat.le_of_ble_eq_true rfl)) (Own.kid ctnO (Own.slot 0 rfl) 0 rfl)) xa_nil))) (Nat.le_of_ble_eq_true rfl)))))) (aLD_map Cd.d _))) rfl rfl (sw_true rfl rfl rfl (by decide +kernel)) (by exact xg_weak (ρ := [some (pin pa0 (aObj cL.cl_Meter ns_Meter [(pin pv_8 (aTD K (tD (self.sums : (List ((Int × Int) × Int)))))), (aD K (Cd.d ((self.serial + 1) : Int))), (aD K (Cd.d (self.letter : (Option (Int × (Tu (T3 Int Int Int))))))), (aD K (Cd.d (self.answered : Int))), (aD K (Cd.d (self.is_written : Bool)))])), some (aD K (Cd.d (ys_13 : (List (T3 Int Int Int))))), none, none]) (B := (pin pa0 (o_Meter K cL { self with serial := (self.serial + 1) }))) 0 rfl (imp_pin (imp_obj (.cons (imp_pinned imp_rfl) (.cons imp_rfl (.cons imp_rfl (.cons imp_rfl (.cons imp_rfl .nil))))))) (xg_st [some (pin pa0 (aObj cL.cl_Meter ns_Meter [(aTD K (tD (self.sums : (List ((Int × Int) × Int))))), (aD K (Cd.d ((self.serial + 1) : Int))), (aD K (Cd.d (self.letter : (Option (Int × (Tu (T3 Int Int Int))))))), (aD K (Cd.d (self.answered : Int))), (aD K (Cd.d (self.is_written : Bool)))])), some (aD K (Cd.d (ys_13 : (List (T3 Int Int Int))))), none, none] rfl (xg_lett fun letter_14 hletter_14 =>
  (xg_fld 2 (B := (aD K (Cd.d (letter_14 : (Option (Int × (Tu (T3 Int Int Int)))))))) (xe_nv (v := ((some (((self.serial + 1) : Int), ((Tu.mk ys_13 : (Tu (T3 Int Int Int))) : (Tu (T3 Int Int Int))))) : (Option (Int × (Tu (T3 Int Int Int)))))) (xe_is (B := aD K (Cd.d (some (((self.serial + 1) : Int), ((Tu.mk ys_13 : (Tu (T3 Int Int Int))) : (Tu (T3 Int Int Int)))) : (Option (Int × (Tu (T3 Int Int Int))))))) (xe_tup (ds := [Cd.d ((self.serial + 1) : Int), Cd.d ((Tu.mk ys_13 : (Tu (T3 Int Int Int))) : (Tu (T3 Int Int Int)))]) (xa_cons (xe_fldD 1 (xe_nmV 0 rfl) (Own.slot 0 rfl) HX.T_Meter.cl HX.T_Meter.n_serial nd_Meter rfl rfl) (xa_cons (xe_is (B := aD K (Cd.d ((Tu.mk ys_13 : (Tu (T3 Int Int Int))) : (Tu (T3 Int Int Int))))) (xe_is (B := aD K (Cd.d (Tu.mk ys_13 : (Tu (T3 Int Int Int))))) (xc_tuple (xs := ys_13) (xe_nm 1 rfl) rlD m_tuple) rfl) rfl) xa_nil)) (Nat.le_of_ble_eq_true rfl)) rfl) hletter_14) (xe_nmV 0 rfl) (Own.slot 0 rfl) HX.T_Meter.cl HX.T_Meter.n_letter nd_Meter rfl (xg_st [some (pin pa0 (o_Meter K cL { self with serial := (self.serial + 1), letter := letter_14 })), some (aD K (Cd.d (ys_13 : (List (T3 Int Int Int))))), none, none] rfl (xg_fld 4 (B := (aD K (Cd.d (true : Bool)))) xe_bl (xe_nmV 0 rfl) (Own.slot 0 rfl) HX.T_Meter.cl HX.T_Meter.n_is_written nd_Meter rfl (xg_st [some (pin pa0 (aObj cL.cl_Meter ns_Meter [(aTD K (tD (self.sums : (List ((Int × Int) × Int))))), (aD K (Cd.d ((self.serial + 1) : Int))), (aD K (Cd.d (letter_14 : (Option (Int × (Tu (T3 Int Int Int))))))), (aD K (Cd.d (self.answered : Int))), (aD K (Cd.d (true : Bool)))])), some (aD K (Cd.d (ys_13 : (List (T3 Int Int Int))))), none, none] rfl (xg_bind fun u_15 hu_15 =>
  (xg_ret (A := (aD K (Cd.d (u_15 : (Int × (Tu (T3 Int Int Int))))))) (xe_unopt (xe_fldD 2 (xe_nmV 0 rfl) (Own.slot 0 rfl) HX.T_Meter.cl HX.T_Meter.n_letter nd_Meter rfl rfl) hu_15) (wk_k (wk_k (wk_n (wk_n (wk_n wk_0)))))))))))))) (Nat.le_of_ble_eq_true rfl)  rfl nd (blkOk_by (N := ["self", "rows", "bearer", "way"]) (sc := defScope s_Meter_write) (by decide +kernel)) (fun _ _ _ _ _ => (pgs_cons (pg_name nd rfl (.inl rfl)) (pgs_cons (pg_name nd rfl (.inl rfl)) pgs_nil))))))))))
def m_Meter_last (self : M_Meter) : Option (Option (Int × (Tu (T3 Int Int Int)))) :=
  (some self.letter)
abbrev sp_Meter_last (K : PySem.W.Frag) (cL : CLs) : Sp := SpM (fun x : M_Meter => [(o_Meter K cL x)]) (fun x => m_Meter_last x) (fun x (r : (Option (Int × (Tu (T3 Int Int Int))))) => [some (o_Meter K cL x)]) (fun _ r => (aD K (Cd.d (r : (Option (Int × (Tu (T3 Int Int Int))))))))
abbrev s_Meter_last : Stmt := inClass (topS 1) 4
theorem sc_Meter_last : FnScope ["self"] ["self"] (defScope s_Meter_last) := ⟨rfl, rfl, rfl, by decide +kernel, rfl, by decide +kernel, by decide +kernel⟩
set_option maxHeartbeats 4000000 in
theorem ok_Meter_last {P : Program} {w : World} {K : PySem.W.Frag} {mg : Str → Option Value} {base : Heap} {f : Addr} {cL : CLs} {fd : FuncData} (F : Fun K "last" "Meter.last" s_Meter_last f fd) (HX : HXs K mg cL) : FnOk P w K mg base CX0 1 f fd ["self"] (sp_Meter_last K cL) :=
  fn_ok (k := 0) [true] F sc_Meter_last rfl (fun _ => rfl) (fun _ _ => rfl) fun x vs cdv A outer s H E hv hr => by
    match x, vs, hv with
    | self, [pa0], _ =>
      have nd := sc_Meter_last.nd
      show XG _ _ [some (pin pa0 (o_Meter K cL self))] (m_Meter_last self) (oR fun r : (Option (Int × (Tu (T3 Int Int Int)))) => [some ((aD K (Cd.d (r : (Option (Int × (Tu (T3 Int Int Int)))))))), some (pin pa0 (o_Meter K cL self))])
      unfold m_Meter_last
      exact (xg_st [some (pin pa0 (aObj cL.cl_Meter ns_Meter [(aTD K (tD (self.sums : (List ((Int × Int) × Int))))), (aD K (Cd.d (self.serial : Int))), (aD K (Cd.d (self.letter : (Option (Int × (Tu (T3 Int Int Int))))))), (aD K (Cd.d (self.answered : Int))), (aD K (Cd.d (self.is_written : Bool)))]))] rfl (xg_ret (A := (aD K (Cd.d (self.letter : (Option (Int × (Tu (T3 Int Int Int)))))))) (xe_fldD 2 (xe_nmV 0 rfl) (Own.slot 0 rfl) HX.T_Meter.cl HX.T_Meter.n_letter nd_Meter rfl rfl) (wk_k (wk_k wk_0))))
def m_Meter_take (self : M_Meter) (serial : Int) : Option M_Meter :=
  (lett ((max self.answered serial) : Int) fun answered_16 =>
  (some { self with answered := answered_16 }))
abbrev sp_Meter_take (K : PySem.W.Frag) (cL : CLs) : Sp := SpM (fun x : (M_Meter × Int) => [(o_Meter K cL x.1), (aD K (Cd.d (x.2 : Int)))]) (fun x => m_Meter_take x.1 x.2) (fun x (r : M_Meter) => [some (o_Meter K cL r), none]) (fun _ r => aD K .none)
abbrev s_Meter_take : Stmt := inClass (topS 1) 5
theorem sc_Meter_take : FnScope ["self", "serial"] ["self", "serial"] (defScope s_Meter_take) := ⟨rfl, rfl, rfl, by decide +kernel, rfl, by decide +kernel, by decide +kernel⟩
set_option maxHeartbeats 4000000 in
theorem ok_Meter_take {P : Program} {w : World} {K : PySem.W.Frag} {mg : Str → Option Value} {base : Heap} {f : Addr} {cL : CLs} {fd : FuncData} (F : Fun K "take" "Meter.take" s_Meter_take f fd) (HX : HXs K mg cL)(m_max : mg "max" = none) : FnOk P w K mg base CX0 1 f fd ["self", "serial"] (sp_Meter_take K cL) :=
  fn_okN (k := 0) [true, false] F sc_Meter_take rfl (fun _ => rfl) (fun _ _ => rfl) fun x vs cdv A outer s H E hv hr => by
    match x, vs, hv with
    | (self, serial), [pa0, pa1], _ =>
      have nd := sc_Meter_take.nd
      show XG _ _ [some (pin pa0 (o_Meter K cL self)), some (aD K (Cd.d (serial : Int)))] (m_Meter_take self serial) (oS fun r : M_Meter => [some (pin pa0 (o_Meter K cL r)), none])
      unfold m_Meter_take
      exact (xg_st [some (pin pa0 (aObj cL.cl_Meter ns_Meter [(aTD K (tD (self.sums : (List ((Int × Int) × Int))))), (aD K (Cd.d (self.serial : Int))), (aD K (Cd.d (self.letter : (Option (Int × (Tu (T3 Int Int Int))))))), (aD K (Cd.d (self.answered : Int))), (aD K (Cd.d (self.is_written : Bool)))])), some (aD K (Cd.d (serial : Int)))] rfl (xg_lett fun answered_16 hanswered_16 =>
  (xg_fld 3 (B := (aD K (Cd.d (answered_16 : Int)))) (xe_nv (v := ((max self.answered serial) : Int)) (xe_max2 rfl (xe_fldD 3 (xe_nmV 0 rfl) (Own.slot 0 rfl) HX.T_Meter.cl HX.T_Meter.n_answered nd_Meter rfl rfl) (xe_nm 1 rfl) m_max) hanswered_16) (xe_nmV 0 rfl) (Own.slot 0 rfl) HX.T_Meter.cl HX.T_Meter.n_answered nd_Meter rfl (xg_st [some (pin pa0 (o_Meter K cL { self with answered := answered_16 })), some (aD K (Cd.d (serial : Int)))] rfl (xg_nilS (wk_k (wk_n wk_0)))))))
def m_Meter_is_settled (self : M_Meter) : Option Bool :=
  (some (self.is_written && (decide (self.serial ≤ self.answered))))
abbrev sp_Meter_is_settled (K : PySem.W.Frag) (cL : CLs) : Sp := SpM (fun x : M_Meter => [(o_Meter K cL x)]) (fun x => m_Meter_is_settled x) (fun x (r : Bool) => [some (o_Meter K cL x)]) (fun _ r => (aD K (Cd.d (r : Bool))))
abbrev s_Meter_is_settled : Stmt := inClass (topS 1) 6
theorem sc_Meter_is_settled : FnScope ["self"] ["self"] (defScope s_Meter_is_settled) := ⟨rfl, rfl, rfl, by decide +kernel, rfl, by decide +kernel, by decide +kernel⟩
set_option maxHeartbeats 4000000 in
theorem ok_Meter_is_settled {P : Program} {w : World} {K : PySem.W.Frag} {mg : Str → Option Value} {base : Heap} {f : Addr} {cL : CLs} {fd : FuncData} (F : Fun K "is_settled" "Meter.is_settled" s_Meter_is_settled f fd) (HX : HXs K mg cL) : FnOk P w K mg base CX0 1 f fd ["self"] (sp_Meter_is_settled K cL) :=
  fn_ok (k := 0) [true] F sc_Meter_is_settled rfl (fun _ => rfl) (fun _ _ => rfl) fun x vs cdv A outer s H E hv hr => by
    match x, vs, hv with
    | self, [pa0], _ =>
      have nd := sc_Meter_is_settled.nd
      show XG _ _ [some (pin pa0 (o_Meter K cL self))] (m_Meter_is_settled self) (oR fun r : Bool => [some ((aD K (Cd.d (r : Bool)))), some (pin pa0 (o_Meter K cL self))])
      unfold m_Meter_is_settled
      exact (xg_st [some (pin pa0 (o_Meter K cL self))] rfl (xg_ret (A := (aD K (Cd.d ((self.is_written && (decide (self.serial ≤ self.answered))) : Bool)))) (xe_and (xe_fldD 4 (xe_nmV 0 rfl) (Own.slot 0 rfl) HX.T_Meter.cl HX.T_Meter.n_is_written nd_Meter rfl rfl) fun _ => (xe_one (xe_k (xk_ge (xe_fldD 3 (xe_nmV 0 rfl) (Own.slot 0 rfl) HX.T_Meter.cl HX.T_Meter.n_answered nd_Meter rfl rfl) (xe_fldD 1 (xe_nmV 0 rfl) (Own.slot 0 rfl) HX.T_Meter.cl HX.T_Meter.n_serial nd_Meter rfl rfl))))) (wk_k (wk_k wk_0))))
def m_Biller___init__  : Option M_Biller :=
  (lett ((Tu.mk [] : (Tu (T3 Int Int Int))) : (Tu (T3 Int Int Int))) fun rows_17 =>
  (some (M_Biller.mk 0 rows_17)))
abbrev sp_Biller___init__ (K : PySem.W.Frag) (cL : CLs) : Sp := SpM (fun x : Unit => [aObj cL.cl_Biller [] []]) (fun x => m_Biller___init__ ) (fun x (r : M_Biller) => [some (o_Biller K cL r)]) (fun _ r => aD K .none)
abbrev s_Biller___init__ : Stmt := inClass (topS 2) 0
theorem sc_Biller___init__ : FnScope ["self"] ["self"] (defScope s_Biller___init__) := ⟨rfl, rfl, rfl, by decide +kernel, rfl, by decide +kernel, by decide +kernel⟩
set_option maxHeartbeats 4000000 in
theorem ok_Biller___init__ {P : Program} {w : World} {K : PySem.W.Frag} {mg : Str → Option Value} {base : Heap} {f : Addr} {cL : CLs} {fd : FuncData} (F : Fun K "__init__" "Biller.__init__" s_Biller___init__ f fd) (HX : HXs K mg cL) : FnOk P w K mg base CX0 1 f fd ["self"] (sp_Biller___init__ K cL) :=
  fn_okN (k := 0) [true] F sc_Biller___init__ rfl (fun _ => rfl) (fun _ _ => rfl) fun x vs cdv A outer s H E hv hr => by
    match x, vs, hv with
    | (), [pa0], _ =>
      have nd := sc_Biller___init__.nd
      show XG _ _ [some (pin pa0 (aObj cL.cl_Biller [] []))] (m_Biller___init__ ) (oS fun r : M_Biller => [some (pin pa0 (o_Biller K cL r))])
      unfold m_Biller___init__
      exact (xg_st [some (pin pa0 (aObj cL.cl_Biller [] []))] rfl (xg_fldN (B := (aD K (Cd.d (0 : Int)))) xe_int (xe_nmV 0 rfl) (Own.slot 0 rfl) HX.T_Biller.cl HX.T_Biller.n_serial (by decide +kernel) (xg_st [some (pin pa0 (aObj cL.cl_Biller ["serial"] [(aD K (Cd.d (0 : Int)))]))] rfl (xg_lett fun rows_17 hrows_17 =>
  (xg_fldN (B := (aD K (Cd.d (rows_17 : (Tu (T3 Int Int Int)))))) (xe_nv (v := ((Tu.mk [] : (Tu (T3 Int Int Int))) : (Tu (T3 Int Int Int)))) (xe_is (B := aD K (Cd.d (Tu.mk [] : (Tu (T3 Int Int Int))))) (xe_tup (ds := []) xa_nil (Nat.le_of_ble_eq_true rfl)) rfl) hrows_17) (xe_nmV 0 rfl) (Own.slot 0 rfl) HX.T_Biller.cl HX.T_Biller.n_rows (by decide +kernel) (xg_st [some (pin pa0 (o_Biller K cL (M_Biller.mk 0 rows_17)))] rfl (xg_nilS (wk_k wk_0))))))))
def m_Biller_take (self : M_Biller) (letter : (Int × (Tu (T3 Int Int Int)))) : Option (Int × M_Biller) :=
  (Option.bind (if (decide (self.serial < letter.1)) = true then
  (some { self with serial := letter.1, rows := letter.2 }) else
  (some self)) fun s_18 =>
  (some (s_18.serial, s_18)))
abbrev sp_Biller_take (K : PySem.W.Frag) (cL : CLs) : Sp := SpM (fun x : (M_Biller × (Int × (Tu (T3 Int Int Int)))) => [(o_Biller K cL x.1), (aD K (Cd.d (x.2 : (Int × (Tu (T3 Int Int Int))))))]) (fun x => m_Biller_take x.1 x.2) (fun x (r : (Int × M_Biller)) => [some (o_Biller K cL r.2), none]) (fun _ r => (aD K (Cd.d (r.1 : Int))))
abbrev s_Biller_take : Stmt := inClass (topS 2) 1
theorem sc_Biller_take : FnScope ["self", "letter"] ["self", "letter"] (defScope s_Biller_take) := ⟨rfl, rfl, rfl, by decide +kernel, rfl, by decide +kernel, by decide +kernel⟩
set_option maxHeartbeats 4000000 in
theorem ok_Biller_take {P : Program} {w : World} {K : PySem.W.Frag} {mg : Str → Option Value} {base : Heap} {f : Addr} {cL : CLs} {fd : FuncData} (F : Fun K "take" "Biller.take" s_Biller_take f fd) (HX : HXs K mg cL) : FnOk P w K mg base CX0 1 f fd ["self", "letter"] (sp_Biller_take K cL) :=
  fn_ok (k := 0) [true, false] F sc_Biller_take rfl (fun _ => rfl) (fun _ _ => rfl) fun x vs cdv A outer s H E hv hr => by
    match x, vs, hv with
    | (self, letter), [pa0, pa1], _ =>
      have nd := sc_Biller_take.nd
      show XG _ _ [some (pin pa0 (o_Biller K cL self)), some (aD K (Cd.d (letter : (Int × (Tu (T3 Int Int Int))))))] (m_Biller_take self letter) (oR fun r : (Int × M_Biller) => [some ((aD K (Cd.d (r.1 : Int)))), some (pin pa0 (o_Biller K cL r.2)), none])
      unfold m_Biller_take
      exact (xg_st [some (pin pa0 (aObj cL.cl_Biller ns_Biller [(aD K (Cd.d (self.serial : Int))), (aD K (Cd.d (self.rows : (Tu (T3 Int Int Int)))))])), some (aD K (Cd.d (letter : (Int × (Tu (T3 Int Int Int))))))] rfl (xg_if (N := (fun s_18 : M_Biller => [some (pin pa0 (o_Biller K cL s_18)), some (aD K (Cd.d (letter : (Int × (Tu (T3 Int Int Int))))))])) (xt_k (xk_gt (xe_ixT (xe_nm 1 rfl) xe_int rtD rfl) (xe_fldD 0 (xe_nmV 0 rfl) (Own.slot 0 rfl) HX.T_Biller.cl HX.T_Biller.n_serial nd_Biller rfl rfl))) (fun _ => (xg_st [some (pin pa0 (o_Biller K cL self)), some (aD K (Cd.d (letter : (Int × (Tu (T3 Int Int Int))))))] rfl (xg_fld 0 (B := (aD K (Cd.d (letter.1 : Int)))) (xe_ixT (xe_nm 1 rfl) xe_int rtD rfl) (xe_nmV 0 rfl) (Own.slot 0 rfl) HX.T_Biller.cl HX.T_Biller.n_serial nd_Biller rfl (xg_st [some (pin pa0 (o_Biller K cL { self with serial := letter.1 })), some (aD K (Cd.d (letter : (Int × (Tu (T3 Int Int Int))))))] rfl (xg_fld 1 (B := (aD K (Cd.d (letter.2 : (Tu (T3 Int Int Int)))))) (xe_ixT (xe_nm 1 rfl) xe_int rtD rfl) (xe_nmV 0 rfl) (Own.slot 0 rfl) HX.T_Biller.cl HX.T_Biller.n_rows nd_Biller rfl (xg_st [some (pin pa0 (o_Biller K cL { self with serial := letter.1, rows := letter.2 })), some (aD K (Cd.d (letter : (Int × (Tu (T3 Int Int Int))))))] rfl (xg_nilS (wk_k (wk_k wk_0))))))))) (fun _ => (xg_st [some (pin pa0 (o_Biller K cL self)), some (aD K (Cd.d (letter : (Int × (Tu (T3 Int Int Int))))))] rfl (xg_nilS (wk_k (wk_k wk_0))))) (fun s_18 => (xg_st [some (pin pa0 (aObj cL.cl_Biller ns_Biller [(aD K (Cd.d (s_18.serial : Int))), (aD K (Cd.d (s_18.rows : (Tu (T3 Int Int Int)))))])), some (aD K (Cd.d (letter : (Int × (Tu (T3 Int Int Int))))))] rfl (xg_ret (A := (aD K (Cd.d (s_18.serial : Int)))) (xe_fldD 0 (xe_nmV 0 rfl) (Own.slot 0 rfl) HX.T_Biller.cl HX.T_Biller.n_serial nd_Biller rfl rfl) (wk_k (wk_k (wk_n wk_0))))))))
def m_Biller_bill (self : M_Biller) (bearer : Int) (way : Int) : Option Int :=
  (thenR (foldB (fun (s_19 : Unit) (other_20 : (T3 Int Int Int)) =>
  (if ((decide ((other_20.a : Int) = bearer)) && (decide ((other_20.b : Int) = way))) = true then
  Option.map Sum.inl (some other_20.c) else
  (some (Sum.inr ())))) ((self.rows).l) ()) (fun s_21 =>
  (some 0)) id)
abbrev sp_Biller_bill (K : PySem.W.Frag) (cL : CLs) : Sp := SpM (fun x : (M_Biller × Int × Int) => [(o_Biller K cL x.1), (aD K (Cd.d (x.2.1 : Int))), (aD K (Cd.d (x.2.2 : Int)))]) (fun x => m_Biller_bill x.1 x.2.1 x.2.2) (fun x (r : Int) => [some (o_Biller K cL x.1), none, none]) (fun _ r => (aD K (Cd.d (r : Int))))
abbrev s_Biller_bill : Stmt := inClass (topS 2) 2
theorem sc_Biller_bill : FnScope ["self", "bearer", "way", "other", "other_way", "size"] ["self", "bearer", "way"] (defScope s_Biller_bill) := ⟨rfl, rfl, rfl, by decide +kernel, rfl, by decide +kernel, by decide +kernel⟩
set_option maxHeartbeats 4000000 in
theorem ok_Biller_bill {P : Program} {w : World} {K : PySem.W.Frag} {mg : Str → Option Value} {base : Heap} {f : Addr} {cL : CLs} {fd : FuncData} (F : Fun K "bill" "Biller.bill" s_Biller_bill f fd) (HX : HXs K mg cL) : FnOk P w K mg base CX0 1 f fd ["self", "bearer", "way"] (sp_Biller_bill K cL) :=
  fn_ok (k := 0) [true, false, false] F sc_Biller_bill rfl (fun _ => rfl) (fun _ _ => rfl) fun x vs cdv A outer s H E hv hr => by
    match x, vs, hv with
    | (self, bearer, way), [pa0, pa1, pa2], _ =>
      have nd := sc_Biller_bill.nd
      show XG _ _ [some (pin pa0 (o_Biller K cL self)), some (aD K (Cd.d (bearer : Int))), some (aD K (Cd.d (way : Int))), none, none, none] (m_Biller_bill self bearer way) (oR fun r : Int => [some ((aD K (Cd.d (r : Int)))), some (pin pa0 (o_Biller K cL self)), none, none, none, none, none])
      unfold m_Biller_bill
      exact (xg_st [some (pin pa0 (aObj cL.cl_Biller ns_Biller [(aD K (Cd.d (self.serial : Int))), (aD K (Cd.d (self.rows : (Tu (T3 Int Int Int)))))])), some (aD K (Cd.d (bearer : Int))), some (aD K (Cd.d (way : Int))), none, none, none] rfl (xg_forR (N := (fun s_19 : Unit => [some (pin pa0 (o_Biller K cL self)), some (aD K (Cd.d (bearer : Int))), some (aD K (Cd.d (way : Int))), none, none, none])) PassesOwn.never rfl (xi_tup (xs := (self.rows).l) (cv := Cd.d) (xe_fldD 1 (xe_nmV 0 rfl) (Own.slot 0 rfl) HX.T_Biller.cl HX.T_Biller.n_rows nd_Biller rfl rfl)) (wk_k (wk_k (wk_k (wk_n (wk_n (wk_n wk_0)))))) (fun _ => trivial) (fun _ _ => (xp_tup rfl (xps_cons (xp_nm 3) (xps_cons (xp_nm 4) (xps_cons (xp_nm 5) xps_nil))))) (fun other_20 s_19 => (xg_st [some (pin pa0 (o_Biller K cL self)), some (aD K (Cd.d (bearer : Int))), some (aD K (Cd.d (way : Int))), some (aD K (Cd.d (other_20.a : Int))), some (aD K (Cd.d (other_20.b : Int))), some (aD K (Cd.d (other_20.c : Int)))] rfl (xg_ifRB (u := []) (xt_w (xw_and (xt_k (xkc_eq (x := (other_20.a : Int)) (y := (bearer : Int)) hr.units (xe_nm 3 rfl) (xe_nm 1 rfl) rdD rdD)) fun _ => (xw_and1 (xt_k (xkc_eq (x := (other_20.b : Int)) (y := (way : Int)) hr.units (xe_nm 4 rfl) (xe_nm 2 rfl) rdD rdD))))) (fun _ => (xg_st [some (pin pa0 (o_Biller K cL self)), some (aD K (Cd.d (bearer : Int))), some (aD K (Cd.d (way : Int))), some (aD K (Cd.d (other_20.a : Int))), some (aD K (Cd.d (other_20.b : Int))), some (aD K (Cd.d (other_20.c : Int)))] rfl (xg_ret (A := (aD K (Cd.d (other_20.c : Int)))) (xe_nm 5 rfl) (wk_k (wk_k (wk_n (wk_n (wk_n (wk_n (wk_n wk_0)))))))))) (fun _ => (xg_st [some (pin pa0 (o_Biller K cL self)), some (aD K (Cd.d (bearer : Int))), some (aD K (Cd.d (way : Int))), some (aD K (Cd.d (other_20.a : Int))), some (aD K (Cd.d (other_20.b : Int))), some (aD K (Cd.d (other_20.c : Int)))] rfl (xg_nilB (wk_k (wk_k (wk_k (wk_n (wk_n (wk_n wk_0)))))))))))) (fun s_21 => (xg_st [some (pin pa0 (o_Biller K cL self)), some (aD K (Cd.d (bearer : Int))), some (aD K (Cd.d (way : Int))), none, none, none] rfl (xg_ret (A := (aD K (Cd.d (0 : Int)))) xe_int (wk_k (wk_k (wk_n (wk_n (wk_n (wk_n (wk_n wk_0))))))))))))
def m_l_next (l_tape : ((List Int) × Int × Int × Int)) (l_many : Int) : Option (Int × ((List Int) × Int × Int × Int)) :=
  (thenR (if (decide ((l_tape.2.2.1 : Int) = 0)) = true then
  (Option.bind (if (decide (l_tape.2.1 < ((List.length l_tape.1 : Nat) : Int))) = true then
  (Option.bind (atI l_tape.1 l_tape.2.1) fun x_36 =>
  (lett ((if x_36 < 0 then -x_36 else x_36) : Int) fun l_cell_37 =>
  (lett ((l_tape.2.1 + 1) : Int) fun e_38 =>
  (some ((l_tape.1, e_38, l_tape.2.2.1, l_tape.2.2.2), l_cell_37))))) else
  (some (l_tape, 0))) fun s_35 =>
  (if (decide (s_35.2 < 1000000000000000000)) = true then
  Option.map Sum.inl (lett (((((s_35.1.2.2.2 * 69621) + (s_35.2 * 40692)) + 17) % 2147483647) : Int) fun e_39 =>
  (Option.bind (modM (((e_39 / 5) * 48271) % 2147483647) l_many) fun r_40 =>
  (some (r_40, (s_35.1.1, s_35.1.2.1, s_35.1.2.2.1, e_39))))) else
  (some (Sum.inr (s_35.1, s_35.2))))) else
  (some (Sum.inr (l_tape, l_tape.2.2.1)))) (fun s_31 =>
  (Option.bind (divM s_31.2 l_many) fun q_41 =>
  (Option.bind (modM s_31.2 l_many) fun r_42 =>
  (some (r_42, (s_31.1.1, s_31.1.2.1, q_41, s_31.1.2.2.2)))))) id)
abbrev sp_l_next (K : PySem.W.Frag) (cL : CLs) : Sp := SpM (fun x : (((List Int) × Int × Int × Int) × Int) => [(aL [(aD K (Cd.d (x.1.1 : (List Int)))), (aD K (Cd.d (x.1.2.1 : Int))), (aD K (Cd.d (x.1.2.2.1 : Int))), (aD K (Cd.d (x.1.2.2.2 : Int)))]), (aD K (Cd.d (x.2 : Int)))]) (fun x => m_l_next x.1 x.2) (fun x (r : (Int × ((List Int) × Int × Int × Int))) => [some (aL [(aD K (Cd.d (r.2.1 : (List Int)))), (aD K (Cd.d (r.2.2.1 : Int))), (aD K (Cd.d (r.2.2.2.1 : Int))), (aD K (Cd.d (r.2.2.2.2 : Int)))]), none]) (fun _ r => (aD K (Cd.d (r.1 : Int))))
abbrev s_l_next : Stmt := topS 4
theorem sc_l_next : FnScope ["_law_tape", "_law_many", "_law_rest", "_law_cell"] ["_law_tape", "_law_many"] (defScope s_l_next) := ⟨rfl, rfl, rfl, by decide +kernel, rfl, by decide +kernel, by decide +kernel⟩
set_option maxHeartbeats 4000000 in
theorem ok_l_next {P : Program} {w : World} {K : PySem.W.Frag} {mg : Str → Option Value} {base : Heap} {f : Addr} {cL : CLs} {fd : FuncData} (F : Fun K "_law_next" "_law_next" s_l_next f fd) (HX : HXs K mg cL)(m_abs : mg "abs" = none) (m_int : mg "int" = none) (m_len : mg "len" = none) : FnOk P w K mg base CX0 1 f fd ["_law_tape", "_law_many"] (sp_l_next K cL) :=
  fn_ok (k := 0) [true, false] F sc_l_next rfl (fun _ => rfl) (fun _ _ => rfl) fun x vs cdv A outer s H E hv hr => by
    match x, vs, hv with
    | (l_tape, l_many), [pa0, pa1], _ =>
      have nd := sc_l_next.nd
      show XG _ _ [some (pin pa0 (aL [(aD K (Cd.d (l_tape.1 : (List Int)))), (aD K (Cd.d (l_tape.2.1 : Int))), (aD K (Cd.d (l_tape.2.2.1 : Int))), (aD K (Cd.d (l_tape.2.2.2 : Int)))])), some (aD K (Cd.d (l_many : Int))), none, none] (m_l_next l_tape l_many) (oR fun r : (Int × ((List Int) × Int × Int × Int)) => [some ((aD K (Cd.d (r.1 : Int)))), some (pin pa0 (aL [(aD K (Cd.d (r.2.1 : (List Int)))), (aD K (Cd.d (r.2.2.1 : Int))), (aD K (Cd.d (r.2.2.2.1 : Int))), (aD K (Cd.d (r.2.2.2.2 : Int)))])), none, none, none])
      unfold m_l_next
      exact (xg_st [some (pin pa0 (aL [(aD K (Cd.d (l_tape.1 : (List Int)))), (aD K (Cd.d (l_tape.2.1 : Int))), (aD K (Cd.d (l_tape.2.2.1 : Int))), (aD K (Cd.d (l_tape.2.2.2 : Int)))])), some (aD K (Cd.d (l_many : Int))), none, none] rfl (xg_asg 2 (A := aD K (Cd.d (l_tape.2.2.1 : Int))) (xe_itD (xe_nmV 0 rfl) xe_int (Own.slot 0 rfl) rfl rfl) (xg_st [some (pin pa0 (aL [(aD K (Cd.d (l_tape.1 : (List Int)))), (aD K (Cd.d (l_tape.2.1 : Int))), (aD K (Cd.d (l_tape.2.2.1 : Int))), (aD K (Cd.d (l_tape.2.2.2 : Int)))])), some (aD K (Cd.d (l_many : Int))), some (aD K (Cd.d (l_tape.2.2.1 : Int))), none] rfl (xg_ifB (N := (fun s_31 : (((List Int) × Int × Int × Int) × Int) => [some (pin pa0 (aL [(aD K (Cd.d (s_31.1.1 : (List Int)))), (aD K (Cd.d (s_31.1.2.1 : Int))), (aD K (Cd.d (s_31.1.2.2.1 : Int))), (aD K (Cd.d (s_31.1.2.2.2 : Int)))])), some (aD K (Cd.d (l_many : Int))), some (aD K (Cd.d (s_31.2 : Int))), none])) (xt_k (xkc_eq (x := (l_tape.2.2.1 : Int)) (y := (0 : Int)) hr.units (xe_nm 2 rfl) xe_int rdD rdD)) (fun _ => (xg_st [some (pin pa0 (aL [(aD K (Cd.d (l_tape.1 : (List Int)))), (aD K (Cd.d (l_tape.2.1 : Int))), (aD K (Cd.d (l_tape.2.2.1 : Int))), (aD K (Cd.d (l_tape.2.2.2 : Int)))])), some (aD K (Cd.d (l_many : Int))), some (aD K (Cd.d (l_tape.2.2.1 : Int))), none] rfl (xg_asg 3 (A := aD K (Cd.d (0 : Int))) xe_int (xg_st [some (pin pa0 (aL [(aD K (Cd.d (l_tape.1 : (List Int)))), (aD K (Cd.d (l_tape.2.1 : Int))), (aD K (Cd.d (l_tape.2.2.1 : Int))), (aD K (Cd.d (l_tape.2.2.2 : Int)))])), some (aD K (Cd.d (l_many : Int))), some (aD K (Cd.d (l_tape.2.2.1 : Int))), some (aD K (Cd.d (0 : Int)))] rfl (xg_if (N := (fun s_35 : (((List Int) × Int × Int × Int) × Int) => [some (pin pa0 (aL [(aD K (Cd.d (s_35.1.1 : (List Int)))), (aD K (Cd.d (s_35.1.2.1 : Int))), (aD K (Cd.d (s_35.1.2.2.1 : Int))), (aD K (Cd.d (s_35.1.2.2.2 : Int)))])), some (aD K (Cd.d (l_many : Int))), some (aD K (Cd.d (l_tape.2.2.1 : Int))), some (aD K (Cd.d (s_35.2 : Int)))])) (xt_k (xk_lt (xe_itD (xe_nmV 0 rfl) xe_int (Own.slot 0 rfl) rfl rfl) (xc_len (xs := l_tape.1) (xe_itD (xe_nmV 0 rfl) xe_int (Own.slot 0 rfl) rfl rfl) rlD m_len))) (fun _ => (xg_st [some (pin pa0 (aL [(aD K (Cd.d (l_tape.1 : (List Int)))), (aD K (Cd.d (l_tape.2.1 : Int))), (aD K (Cd.d (l_tape.2.2.1 : Int))), (aD K (Cd.d (l_tape.2.2.2 : Int)))])), some (aD K (Cd.d (l_many : Int))), some (aD K (Cd.d (l_tape.2.2.1 : Int))), some (aD K (Cd.d (0 : Int)))] rfl (xg_bind fun x_36 hx_36 =>
  (xg_lett fun l_cell_37 hl_cell_37 =>
  (xg_asg 3 (A := aD K (Cd.d (l_cell_37 : Int))) (xe_nv (v := ((if x_36 < 0 then -x_36 else x_36) : Int)) (xe_abs (xe_int1 (xc_ix (xs := l_tape.1) (xe_itD (xe_nmV 0 rfl) xe_int (Own.slot 0 rfl) rfl rfl) (xe_itD (xe_nmV 0 rfl) xe_int (Own.slot 0 rfl) rfl rfl) rlD hx_36) m_int) m_abs) hl_cell_37) (xg_st [some (pin pa0 (aL [(aD K (Cd.d (l_tape.1 : (List Int)))), (aD K (Cd.d (l_tape.2.1 : Int))), (aD K (Cd.d (l_tape.2.2.1 : Int))), (aD K (Cd.d (l_tape.2.2.2 : Int)))])), some (aD K (Cd.d (l_many : Int))), some (aD K (Cd.d (l_tape.2.2.1 : Int))), some (aD K (Cd.d (l_cell_37 : Int)))] rfl (xg_lett fun e_38 he_38 =>
  (xg_tgt (A := (aD K (Cd.d (e_38 : Int)))) (xe_nv (v := ((l_tape.2.1 + 1) : Int)) (xe_add (xe_itD (xe_nmV 0 rfl) xe_int (Own.slot 0 rfl) rfl rfl) xe_int) he_38) (xp_setLW (xe_nmV 0 rfl) xe_int (Own.slot 0 rfl) rfl) (xg_st [some (pin pa0 (aL [(aD K (Cd.d (l_tape.1 : (List Int)))), (aD K (Cd.d (e_38 : Int))), (aD K (Cd.d (l_tape.2.2.1 : Int))), (aD K (Cd.d (l_tape.2.2.2 : Int)))])), some (aD K (Cd.d (l_many : Int))), some (aD K (Cd.d (l_tape.2.2.1 : Int))), some (aD K (Cd.d (l_cell_37 : Int)))] rfl (xg_nilS (wk_k (wk_k (wk_k (wk_k wk_0)))))))))))))) (fun _ => (xg_st [some (pin pa0 (aL [(aD K (Cd.d (l_tape.1 : (List Int)))), (aD K (Cd.d (l_tape.2.1 : Int))), (aD K (Cd.d (l_tape.2.2.1 : Int))), (aD K (Cd.d (l_tape.2.2.2 : Int)))])), some (aD K (Cd.d (l_many : Int))), some (aD K (Cd.d (l_tape.2.2.1 : Int))), some (aD K (Cd.d (0 : Int)))] rfl (xg_nilS (wk_k (wk_k (wk_k (wk_k wk_0))))))) (fun s_35 => (xg_st [some (pin pa0 (aL [(aD K (Cd.d (s_35.1.1 : (List Int)))), (aD K (Cd.d (s_35.1.2.1 : Int))), (aD K (Cd.d (s_35.1.2.2.1 : Int))), (aD K (Cd.d (s_35.1.2.2.2 : Int)))])), some (aD K (Cd.d (l_many : Int))), some (aD K (Cd.d (l_tape.2.2.1 : Int))), some (aD K (Cd.d (s_35.2 : Int)))] rfl (xg_asg 2 (A := aD K (Cd.d (s_35.2 : Int))) (xe_nm 3 rfl) (xg_st [some (pin pa0 (aL [(aD K (Cd.d (s_35.1.1 : (List Int)))), (aD K (Cd.d (s_35.1.2.1 : Int))), (aD K (Cd.d (s_35.1.2.2.1 : Int))), (aD K (Cd.d (s_35.1.2.2.2 : Int)))])), some (aD K (Cd.d (l_many : Int))), some (aD K (Cd.d (s_35.2 : Int))), some (aD K (Cd.d (s_35.2 : Int)))] rfl (xg_ifRB (u := []) (xt_k (xk_lt (xe_nm 3 rfl) (xe_isI (xe_pow (by decide) xe_int xe_int) (by decide)))) (fun _ => (xg_st [some (pin pa0 (aL [(aD K (Cd.d (s_35.1.1 : (List Int)))), (aD K (Cd.d (s_35.1.2.1 : Int))), (aD K (Cd.d (s_35.1.2.2.1 : Int))), (aD K (Cd.d (s_35.1.2.2.2 : Int)))])), some (aD K (Cd.d (l_many : Int))), some (aD K (Cd.d (s_35.2 : Int))), some (aD K (Cd.d (s_35.2 : Int)))] rfl (xg_lett fun e_39 he_39 =>
  (xg_tgt (A := (aD K (Cd.d (e_39 : Int)))) (xe_nv (v := (((((s_35.1.2.2.2 * 69621) + (s_35.2 * 40692)) + 17) % 2147483647) : Int)) (xe_mod (by decide) (xe_int1 (xe_add (xe_add (xe_mul (mulR 69621) (xe_itD (xe_nmV 0 rfl) xe_int (Own.slot 0 rfl) rfl rfl) xe_int) (xe_mul (mulR 40692) (xe_nm 3 rfl) xe_int)) xe_int) m_int) xe_int) he_39) (xp_setLW (xe_nmV 0 rfl) xe_int (Own.slot 0 rfl) rfl) (xg_st [some (pin pa0 (aL [(aD K (Cd.d (s_35.1.1 : (List Int)))), (aD K (Cd.d (s_35.1.2.1 : Int))), (aD K (Cd.d (s_35.1.2.2.1 : Int))), (aD K (Cd.d (e_39 : Int)))])), some (aD K (Cd.d (l_many : Int))), some (aD K (Cd.d (s_35.2 : Int))), some (aD K (Cd.d (s_35.2 : Int)))] rfl (xg_bind fun r_40 hr_40 =>
  (xg_ret (A := (aD K (Cd.d (r_40 : Int)))) (xe_isI (xe_mod (modM_eq hr_40).1 (xe_mod (by decide) (xe_int1 (xe_mul (mulR 48271) (xe_div (by decide) (xe_itD (xe_nmV 0 rfl) xe_int (Own.slot 0 rfl) rfl rfl) xe_int) xe_int) m_int) xe_int) (xe_nm 1 rfl)) (modM_eq hr_40).2) (wk_k (wk_k (wk_n (wk_n (wk_n wk_0)))))))))))) (fun _ => (xg_st [some (pin pa0 (aL [(aD K (Cd.d (s_35.1.1 : (List Int)))), (aD K (Cd.d (s_35.1.2.1 : Int))), (aD K (Cd.d (s_35.1.2.2.1 : Int))), (aD K (Cd.d (s_35.1.2.2.2 : Int)))])), some (aD K (Cd.d (l_many : Int))), some (aD K (Cd.d (s_35.2 : Int))), some (aD K (Cd.d (s_35.2 : Int)))] rfl (xg_nilB (wk_k (wk_k (wk_k (wk_n wk_0))))))))))))))))) (fun _ => (xg_st [some (pin pa0 (aL [(aD K (Cd.d (l_tape.1 : (List Int)))), (aD K (Cd.d (l_tape.2.1 : Int))), (aD K (Cd.d (l_tape.2.2.1 : Int))), (aD K (Cd.d (l_tape.2.2.2 : Int)))])), some (aD K (Cd.d (l_many : Int))), some (aD K (Cd.d (l_tape.2.2.1 : Int))), none] rfl (xg_nilB (wk_k (wk_k (wk_k (wk_n wk_0))))))) (fun s_31 => (xg_st [some (pin pa0 (aL [(aD K (Cd.d (s_31.1.1 : (List Int)))), (aD K (Cd.d (s_31.1.2.1 : Int))), (aD K (Cd.d (s_31.1.2.2.1 : Int))), (aD K (Cd.d (s_31.1.2.2.2 : Int)))])), some (aD K (Cd.d (l_many : Int))), some (aD K (Cd.d (s_31.2 : Int))), none] rfl (xg_bind fun q_41 hq_41 =>
  (xg_tgt (A := (aD K (Cd.d (q_41 : Int)))) (xe_isI (xe_div (divM_eq hq_41).1 (xe_nm 2 rfl) (xe_nm 1 rfl)) (divM_eq hq_41).2) (xp_setLW (xe_nmV 0 rfl) xe_int (Own.slot 0 rfl) rfl) (xg_st [some (pin pa0 (aL [(aD K (Cd.d (s_31.1.1 : (List Int)))), (aD K (Cd.d (s_31.1.2.1 : Int))), (aD K (Cd.d (q_41 : Int))), (aD K (Cd.d (s_31.1.2.2.2 : Int)))])), some (aD K (Cd.d (l_many : Int))), some (aD K (Cd.d (s_31.2 : Int))), none] rfl (xg_bind fun r_42 hr_42 =>
  (xg_ret (A := (aD K (Cd.d (r_42 : Int)))) (xe_isI (xe_mod (modM_eq hr_42).1 (xe_int1 (xe_nm 2 rfl) m_int) (xe_nm 1 rfl)) (modM_eq hr_42).2) (wk_k (wk_k (wk_n (wk_n (wk_n wk_0))))))))))))))))
def m_l_rows (l_sums : (List ((Int × Int) × Int))) : Option (Tu (T3 Int Int Int)) :=
  (Option.bind (guardO (Ok2 (tKeys l_sums))) fun g_43 =>
  (Option.bind (mapO (fun l_name_44 : (Int × Int) => (Option.bind (tGet l_sums (l_name_44 : Int × Int)) fun d_46 => (some (T3.mk l_name_44.1 l_name_44.2 d_46)))) (srt2 (tKeys l_sums))) fun ys_47 =>
  (some (Tu.mk ys_47 : (Tu (T3 Int Int Int))))))
abbrev sp_l_rows (K : PySem.W.Frag) (cL : CLs) : Sp := SpM (fun x : (List ((Int × Int) × Int)) => [(aTD K (tD (x : (List ((Int × Int) × Int)))))]) (fun x => m_l_rows x) (fun x (r : (Tu (T3 Int Int Int))) => [some (aTD K (tD (x : (List ((Int × Int) × Int)))))]) (fun _ r => (aD K (Cd.d (r : (Tu (T3 Int Int Int))))))
abbrev s_l_rows : Stmt := topS 5
theorem sc_l_rows : FnScope ["_law_sums", "_law_name"] ["_law_sums"] (defScope s_l_rows) := ⟨rfl, rfl, rfl, by decide +kernel, rfl, by decide +kernel, by decide +kernel⟩
set_option maxHeartbeats 4000000 in
theorem ok_l_rows {P : Program} {w : World} {K : PySem.W.Frag} {mg : Str → Option Value} {base : Heap} {f : Addr} {cL : CLs} {fd : FuncData} (F : Fun K "_law_rows" "_law_rows" s_l_rows f fd) (HX : HXs K mg cL)(m_list : mg "list" = none) (m_sorted : mg "sorted" = none) (m_tuple : mg "tuple" = none) : FnOk P w K mg base CX0 1 f fd ["_law_sums"] (sp_l_rows K cL) :=
  fn_ok (k := 0) [true] F sc_l_rows rfl (fun _ => rfl) (fun _ _ => rfl) fun x vs cdv A outer s H E hv hr => by
    match x, vs, hv with
    | l_sums, [pa0], _ =>
      have nd := sc_l_rows.nd
      show XG _ _ [some (pin pa0 (aTD K (tD (l_sums : (List ((Int × Int) × Int)))))), none] (m_l_rows l_sums) (oR fun r : (Tu (T3 Int Int Int)) => [some ((aD K (Cd.d (r : (Tu (T3 Int Int Int)))))), some (pin pa0 (aTD K (tD (l_sums : (List ((Int × Int) × Int)))))), none])
      unfold m_l_rows
      exact (xg_st [some (pin pa0 (aTD K (tD (l_sums : (List ((Int × Int) × Int)))))), none] rfl (xg_bind fun g_43 hg_43 =>
  (xg_bind fun ys_47 hys_47 =>
  (xg_ret (A := (aD K (Cd.d ((Tu.mk ys_47 : (Tu (T3 Int Int Int))) : (Tu (T3 Int Int Int)))))) (xe_is (B := aD K (Cd.d (Tu.mk ys_47 : (Tu (T3 Int Int Int))))) (xc_tuple (xs := ys_47) (xe_lc (xc_imp (xc_mapO 1 hys_47 (xi_list (xs := (srt2 (tKeys l_sums))) (cv := Cd.d) (xe_frz (xe_sorted2 (xs := (tKeys l_sums)) (guardO_eq hg_43) (xe_tlist (kvs := l_sums) rfl (xe_nmV 0 rfl) (Own.slot 0 rfl) m_list) (Rlm.ls rmL) m_sorted))) trivial (Nat.le_of_ble_eq_true rfl) (el := fun y => (aD K (Cd.d (y : (T3 Int Int Int))))) (fun _ _ _ _ _ l_name_44 => (xem_bind fun d_46 hd_46 => (xem_some (xe_tup (ds := [Cd.d (l_name_44.1 : Int), Cd.d (l_name_44.2 : Int), Cd.d (d_46 : Int)]) (xa_cons (xe_ixT (xe_nm 1 rfl) xe_int rtD rfl) (xa_cons (xe_ixT (xe_nm 1 rfl) xe_int rtD rfl) (xa_cons (xe_tget (kvs := l_sums) (k := (l_name_44 : Int × Int)) hr.units hd_46 (xe_nmV 0 rfl) (xe_nm 1 rfl) (Own.slot 0 rfl)) xa_nil))) (Nat.le_of_ble_eq_true rfl)))))) (aLD_map Cd.d _)) rfl nd (blkOk_by (N := ["_law_sums", "_law_name"]) (sc := defScope s_l_rows) (by decide +kernel)) (fun _ _ _ _ _ => pg_name nd rfl (.inl rfl))) (Rlm.ls rmL) m_tuple) rfl) (wk_k (wk_k (wk_n wk_0)))))))
def m_l_bills (l_biller : M_Biller) (l_letters : (List (Int × (Tu (T3 Int Int Int))))) (l_newest : Int) (l_sums : (List ((Int × Int) × Int))) (l_before : (List ((Int × Int) × Int))) : Option (Bool × M_Biller × (List (Int × (Tu (T3 Int Int Int)))) × (List ((Int × Int) × Int)) × (List ((Int × Int) × Int))) :=
  (thenR (foldB (fun (s_48 : (List ((Int × Int) × Int))) (l_bearer_49 : Int) =>
  (thenR (foldB (fun (s_83 : (List ((Int × Int) × Int))) (l_way_84 : Int) =>
  (Option.bind (if (decide (0 < l_newest)) = true then
  (Option.bind (atI l_letters (l_newest - 1)) fun x_107 =>
  (Option.bind (List.foldlM (fun (s_108 : Int) (l_row_109 : (T3 Int Int Int)) =>
  (Option.bind (if ((decide ((l_row_109.a : Int) = l_bearer_49)) && (decide ((l_row_109.b : Int) = l_way_84))) = true then
  (some l_row_109.c) else
  (some s_108)) fun s_111 =>
  (some s_111))) 0 ((x_107.2).l)) fun s_112 =>
  (some s_112))) else
  (some 0)) fun s_106 =>
  (Option.bind (m_Biller_bill l_biller l_bearer_49 l_way_84) fun v_113 =>
  (if ((!(decide ((v_113 : Int) = s_106))) || (false || (decide ((Option.getD (tGet l_sums (((l_bearer_49 : Int), (l_way_84 : Int)) : Int × Int)) 0) < v_113)))) = true then
  Option.map Sum.inl (some (false, l_biller, l_letters, l_sums, s_83)) else
  (if (decide (v_113 < (Option.getD (tGet s_83 (((l_bearer_49 : Int), (l_way_84 : Int)) : Int × Int)) 0))) = true then
  Option.map Sum.inl (some (false, l_biller, l_letters, l_sums, s_83)) else
  (Option.bind (guardO (List.length s_83 < 1000000)) fun g_114 =>
  (some (Sum.inr (tPut s_83 (((l_bearer_49 : Int), (l_way_84 : Int)) : Int × Int) v_113))))))))) (rangeI 0 (Int.toNat 2)) s_48) (fun s_115 =>
  (some (Sum.inr s_115))) Sum.inl)) (rangeI 0 (Int.toNat 4)) l_before) (fun s_116 =>
  (some (true, l_biller, l_letters, l_sums, s_116))) id)
abbrev sp_l_bills (K : PySem.W.Frag) (cL : CLs) : Sp := SpM (fun x : (M_Biller × (List (Int × (Tu (T3 Int Int Int)))) × Int × (List ((Int × Int) × Int)) × (List ((Int × Int) × Int))) => [(o_Biller K cL x.1), (aLD K (List.map Cd.d (x.2.1 : List (Int × (Tu (T3 Int Int Int)))))), (aD K (Cd.d (x.2.2.1 : Int))), (aTD K (tD (x.2.2.2.1 : (List ((Int × Int) × Int))))), (aTD K (tD (x.2.2.2.2 : (List ((Int × Int) × Int)))))]) (fun x => m_l_bills x.1 x.2.1 x.2.2.1 x.2.2.2.1 x.2.2.2.2) (fun x (r : (Bool × M_Biller × (List (Int × (Tu (T3 Int Int Int)))) × (List ((Int × Int) × Int)) × (List ((Int × Int) × Int)))) => [some (o_Biller K cL r.2.1), some (aLD K (List.map Cd.d (r.2.2.1 : List (Int × (Tu (T3 Int Int Int)))))), none, some (aTD K (tD (r.2.2.2.1 : (List ((Int × Int) × Int))))), some (aTD K (tD (r.2.2.2.2 : (List ((Int × Int) × Int)))))]) (fun _ r => (aD K (Cd.d (r.1 : Bool))))
abbrev s_l_bills : Stmt := topS 6
theorem sc_l_bills : FnScope ["_law_biller", "_law_letters", "_law_newest", "_law_sums", "_law_before", "_law_bearer", "_law_way", "_law_due", "_law_told", "_law_row"] ["_law_biller", "_law_letters", "_law_newest", "_law_sums", "_law_before"] (defScope s_l_bills) := ⟨rfl, rfl, rfl, by decide +kernel, rfl, by decide +kernel, by decide +kernel⟩
set_option maxHeartbeats 4000000 in
theorem ok_l_bills {P : Program} {w : World} {K : PySem.W.Frag} {mg : Str → Option Value} {base : Heap} {f : Addr} {cL : CLs} {fd : FuncData} (F : Fun K "_law_bills" "_law_bills" s_l_bills f fd) (HX : HXs K mg cL)(m_bool : mg "bool" = none) (m_isinstance : mg "isinstance" = none) (m_range : mg "range" = none) (c_Biller_bill : CalM P w K mg base 1 cL.cl_Biller "bill" (sp_Biller_bill K cL)) : FnOk P w K mg base CX0 2 f fd ["_law_biller", "_law_letters", "_law_newest", "_law_sums", "_law_before"] (sp_l_bills K cL) :=
  fn_ok (k := 1) [true, true, false, true, true] F sc_l_bills rfl (fun _ => rfl) (fun _ _ => rfl) fun x vs cdv A outer s H E hv hr => by
    match x, vs, hv with
    | (l_biller, l_letters, l_newest, l_sums, l_before), [pa0, pa1, pa2, pa3, pa4], _ =>
      have nd := sc_l_bills.nd
      show XG _ _ [some (pin pa0 (o_Biller K cL l_biller)), some (pin pa1 (aLD K (List.map Cd.d (l_letters : List (Int × (Tu (T3 Int Int Int))))))), some (aD K (Cd.d (l_newest : Int))), some (pin pa3 (aTD K (tD (l_sums : (List ((Int × Int) × Int)))))), some (pin pa4 (aTD K (tD (l_before : (List ((Int × Int) × Int)))))), none, none, none, none, none] (m_l_bills l_biller l_letters l_newest l_sums l_before) (oR fun r : (Bool × M_Biller × (List (Int × (Tu (T3 Int Int Int)))) × (List ((Int × Int) × Int)) × (List ((Int × Int) × Int))) => [some ((aD K (Cd.d (r.1 : Bool)))), some (pin pa0 (o_Biller K cL r.2.1)), some (pin pa1 (aLD K (List.map Cd.d (r.2.2.1 : List (Int × (Tu (T3 Int Int Int))))))), none, some (pin pa3 (aTD K (tD (r.2.2.2.1 : (List ((Int × Int) × Int)))))), some (pin pa4 (aTD K (tD (r.2.2.2.2 : (List ((Int × Int) × Int)))))), none, none, none, none, none])
      unfold m_l_bills
      exact (xg_st [some (pin pa0 (o_Biller K cL l_biller)), some (pin pa1 (aLD K (List.map Cd.d (l_letters : List (Int × (Tu (T3 Int Int Int))))))), some (aD K (Cd.d (l_newest : Int))), some (pin pa3 (aTD K (tD (l_sums : (List ((Int × Int) × Int)))))), some (pin pa4 (aTD K (tD (l_before : (List ((Int × Int) × Int)))))), none, none, none, none, none] rfl (xg_forR (N := (fun s_48 : (List ((Int × Int) × Int)) => [some (pin pa0 (o_Biller K cL l_biller)), some (pin pa1 (aLD K (List.map Cd.d (l_letters : List (Int × (Tu (T3 Int Int Int))))))), some (aD K (Cd.d (l_newest : Int))), some (pin pa3 (aTD K (tD (l_sums : (List ((Int × Int) × Int)))))), some (pin pa4 (aTD K (tD (s_48 : (List ((Int × Int) × Int)))))), none, none, none, none, none])) PassesOwn.never rfl (xi_range1 (by exact rfl) m_range xe_int (by decide)) (wk_k (wk_k (wk_k (wk_k (wk_k (wk_n (wk_n (wk_n (wk_n (wk_n wk_0)))))))))) (fun _ => trivial) (fun _ _ => (xp_nm 5)) (fun l_bearer_49 s_48 => (xg_st [some (pin pa0 (o_Biller K cL l_biller)), some (pin pa1 (aLD K (List.map Cd.d (l_letters : List (Int × (Tu (T3 Int Int Int))))))), some (aD K (Cd.d (l_newest : Int))), some (pin pa3 (aTD K (tD (l_sums : (List ((Int × Int) × Int)))))), some (pin pa4 (aTD K (tD (s_48 : (List ((Int × Int) × Int)))))), some (aD K (Cd.d (l_bearer_49 : Int))), none, none, none, none] rfl (xg_forRB (N := (fun s_83 : (List ((Int × Int) × Int)) => [some (pin pa0 (o_Biller K cL l_biller)), some (pin pa1 (aLD K (List.map Cd.d (l_letters : List (Int × (Tu (T3 Int Int Int))))))), some (aD K (Cd.d (l_newest : Int))), some (pin pa3 (aTD K (tD (l_sums : (List ((Int × Int) × Int)))))), some (pin pa4 (aTD K (tD (s_83 : (List ((Int × Int) × Int)))))), some (aD K (Cd.d (l_bearer_49 : Int))), none, none, none, none])) PassesOwn.never rfl (xi_range1 (by exact rfl) m_range xe_int (by decide)) (wk_k (wk_k (wk_k (wk_k (wk_k (wk_k (wk_n (wk_n (wk_n (wk_n wk_0)))))))))) (fun _ => trivial) (fun _ _ => (xp_nm 6)) (fun l_way_84 s_83 => (xg_st [some (pin pa0 (o_Biller K cL l_biller)), some (pin pa1 (aLD K (List.map Cd.d (l_letters : List (Int × (Tu (T3 Int Int Int))))))), some (aD K (Cd.d (l_newest : Int))), some (pin pa3 (aTD K (tD (l_sums : (List ((Int × Int) × Int)))))), some (pin pa4 (aTD K (tD (s_83 : (List ((Int × Int) × Int)))))), some (aD K (Cd.d (l_bearer_49 : Int))), some (aD K (Cd.d (l_way_84 : Int))), none, none, none] rfl (xg_asg 7 (A := aD K (Cd.d (0 : Int))) xe_int (xg_st [some (pin pa0 (o_Biller K cL l_biller)), some (pin pa1 (aLD K (List.map Cd.d (l_letters : List (Int × (Tu (T3 Int Int Int))))))), some (aD K (Cd.d (l_newest : Int))), some (pin pa3 (aTD K (tD (l_sums : (List ((Int × Int) × Int)))))), some (pin pa4 (aTD K (tD (s_83 : (List ((Int × Int) × Int)))))), some (aD K (Cd.d (l_bearer_49 : Int))), some (aD K (Cd.d (l_way_84 : Int))), some (aD K (Cd.d (0 : Int))), none, none] rfl (xg_if (N := (fun s_106 : Int => [some (pin pa0 (o_Biller K cL l_biller)), some (pin pa1 (aLD K (List.map Cd.d (l_letters : List (Int × (Tu (T3 Int Int Int))))))), some (aD K (Cd.d (l_newest : Int))), some (pin pa3 (aTD K (tD (l_sums : (List ((Int × Int) × Int)))))), some (pin pa4 (aTD K (tD (s_83 : (List ((Int × Int) × Int)))))), some (aD K (Cd.d (l_bearer_49 : Int))), some (aD K (Cd.d (l_way_84 : Int))), some (aD K (Cd.d (s_106 : Int))), none, none])) (xt_k (xk_gt (xe_nm 2 rfl) xe_int)) (fun _ => (xg_st [some (pin pa0 (o_Biller K cL l_biller)), some (pin pa1 (aLD K (List.map Cd.d (l_letters : List (Int × (Tu (T3 Int Int Int))))))), some (aD K (Cd.d (l_newest : Int))), some (pin pa3 (aTD K (tD (l_sums : (List ((Int × Int) × Int)))))), some (pin pa4 (aTD K (tD (s_83 : (List ((Int × Int) × Int)))))), some (aD K (Cd.d (l_bearer_49 : Int))), some (aD K (Cd.d (l_way_84 : Int))), some (aD K (Cd.d (0 : Int))), none, none] rfl (xg_bind fun x_107 hx_107 =>
  (xg_for (N := (fun s_108 : Int => [some (pin pa0 (o_Biller K cL l_biller)), some (pin pa1 (aLD K (List.map Cd.d (l_letters : List (Int × (Tu (T3 Int Int Int))))))), some (aD K (Cd.d (l_newest : Int))), some (pin pa3 (aTD K (tD (l_sums : (List ((Int × Int) × Int)))))), some (pin pa4 (aTD K (tD (s_83 : (List ((Int × Int) × Int)))))), some (aD K (Cd.d (l_bearer_49 : Int))), some (aD K (Cd.d (l_way_84 : Int))), some (aD K (Cd.d (s_108 : Int))), none, none])) PassesOwn.never rfl (xi_tup (xs := (x_107.2).l) (cv := Cd.d) (xe_ixT (xc_ix (xs := l_letters) (xe_nmV 1 rfl) (xe_sub (xe_nm 2 rfl) xe_int) (Rlm.ls (rmW (Own.slot 1 rfl))) hx_107) xe_int rtD rfl)) (wk_k (wk_k (wk_k (wk_k (wk_k (wk_k (wk_k (wk_k (wk_n (wk_n wk_0)))))))))) (fun _ => trivial) (fun _ _ => (xp_nm 9)) (fun l_row_109 s_108 => (xg_st [some (pin pa0 (o_Biller K cL l_biller)), some (pin pa1 (aLD K (List.map Cd.d (l_letters : List (Int × (Tu (T3 Int Int Int))))))), some (aD K (Cd.d (l_newest : Int))), some (pin pa3 (aTD K (tD (l_sums : (List ((Int × Int) × Int)))))), some (pin pa4 (aTD K (tD (s_83 : (List ((Int × Int) × Int)))))), some (aD K (Cd.d (l_bearer_49 : Int))), some (aD K (Cd.d (l_way_84 : Int))), some (aD K (Cd.d (s_108 : Int))), none, some (aD K (Cd.d (l_row_109 : (T3 Int Int Int))))] rfl (xg_if (N := (fun s_111 : Int => [some (pin pa0 (o_Biller K cL l_biller)), some (pin pa1 (aLD K (List.map Cd.d (l_letters : List (Int × (Tu (T3 Int Int Int))))))), some (aD K (Cd.d (l_newest : Int))), some (pin pa3 (aTD K (tD (l_sums : (List ((Int × Int) × Int)))))), some (pin pa4 (aTD K (tD (s_83 : (List ((Int × Int) × Int)))))), some (aD K (Cd.d (l_bearer_49 : Int))), some (aD K (Cd.d (l_way_84 : Int))), some (aD K (Cd.d (s_111 : Int))), none, some (aD K (Cd.d (l_row_109 : (T3 Int Int Int))))])) (xt_w (xw_and (xt_k (xkc_eq (x := (l_row_109.a : Int)) (y := (l_bearer_49 : Int)) hr.units (xe_ixT (xe_nm 9 rfl) xe_int rtD rfl) (xe_nm 5 rfl) rdD rdD)) fun _ => (xw_and1 (xt_k (xkc_eq (x := (l_row_109.b : Int)) (y := (l_way_84 : Int)) hr.units (xe_ixT (xe_nm 9 rfl) xe_int rtD rfl) (xe_nm 6 rfl) rdD rdD))))) (fun _ => (xg_st [some (pin pa0 (o_Biller K cL l_biller)), some (pin pa1 (aLD K (List.map Cd.d (l_letters : List (Int × (Tu (T3 Int Int Int))))))), some (aD K (Cd.d (l_newest : Int))), some (pin pa3 (aTD K (tD (l_sums : (List ((Int × Int) × Int)))))), some (pin pa4 (aTD K (tD (s_83 : (List ((Int × Int) × Int)))))), some (aD K (Cd.d (l_bearer_49 : Int))), some (aD K (Cd.d (l_way_84 : Int))), some (aD K (Cd.d (s_108 : Int))), none, some (aD K (Cd.d (l_row_109 : (T3 Int Int Int))))] rfl (xg_asg 7 (A := aD K (Cd.d (l_row_109.c : Int))) (xe_ixT (xe_nm 9 rfl) xe_int rtD rfl) (xg_st [some (pin pa0 (o_Biller K cL l_biller)), some (pin pa1 (aLD K (List.map Cd.d (l_letters : List (Int × (Tu (T3 Int Int Int))))))), some (aD K (Cd.d (l_newest : Int))), some (pin pa3 (aTD K (tD (l_sums : (List ((Int × Int) × Int)))))), some (pin pa4 (aTD K (tD (s_83 : (List ((Int × Int) × Int)))))), some (aD K (Cd.d (l_bearer_49 : Int))), some (aD K (Cd.d (l_way_84 : Int))), some (aD K (Cd.d (l_row_109.c : Int))), none, some (aD K (Cd.d (l_row_109 : (T3 Int Int Int))))] rfl (xg_nilS (wk_k (wk_k (wk_k (wk_k (wk_k (wk_k (wk_k (wk_k (wk_n (wk_k wk_0))))))))))))))) (fun _ => (xg_st [some (pin pa0 (o_Biller K cL l_biller)), some (pin pa1 (aLD K (List.map Cd.d (l_letters : List (Int × (Tu (T3 Int Int Int))))))), some (aD K (Cd.d (l_newest : Int))), some (pin pa3 (aTD K (tD (l_sums : (List ((Int × Int) × Int)))))), some (pin pa4 (aTD K (tD (s_83 : (List ((Int × Int) × Int)))))), some (aD K (Cd.d (l_bearer_49 : Int))), some (aD K (Cd.d (l_way_84 : Int))), some (aD K (Cd.d (s_108 : Int))), none, some (aD K (Cd.d (l_row_109 : (T3 Int Int Int))))] rfl (xg_nilS (wk_k (wk_k (wk_k (wk_k (wk_k (wk_k (wk_k (wk_k (wk_n (wk_k wk_0))))))))))))) (fun s_111 => (xg_st [some (pin pa0 (o_Biller K cL l_biller)), some (pin pa1 (aLD K (List.map Cd.d (l_letters : List (Int × (Tu (T3 Int Int Int))))))), some (aD K (Cd.d (l_newest : Int))), some (pin pa3 (aTD K (tD (l_sums : (List ((Int × Int) × Int)))))), some (pin pa4 (aTD K (tD (s_83 : (List ((Int × Int) × Int)))))), some (aD K (Cd.d (l_bearer_49 : Int))), some (aD K (Cd.d (l_way_84 : Int))), some (aD K (Cd.d (s_111 : Int))), none, some (aD K (Cd.d (l_row_109 : (T3 Int Int Int))))] rfl (xg_nilS (wk_k (wk_k (wk_k (wk_k (wk_k (wk_k (wk_k (wk_k (wk_n (wk_n wk_0)))))))))))))))) (fun s_112 => (xg_st [some (pin pa0 (o_Biller K cL l_biller)), some (pin pa1 (aLD K (List.map Cd.d (l_letters : List (Int × (Tu (T3 Int Int Int))))))), some (aD K (Cd.d (l_newest : Int))), some (pin pa3 (aTD K (tD (l_sums : (List ((Int × Int) × Int)))))), some (pin pa4 (aTD K (tD (s_83 : (List ((Int × Int) × Int)))))), some (aD K (Cd.d (l_bearer_49 : Int))), some (aD K (Cd.d (l_way_84 : Int))), some (aD K (Cd.d (s_112 : Int))), none, none] rfl (xg_nilS (wk_k (wk_k (wk_k (wk_k (wk_k (wk_k (wk_k (wk_k (wk_n (wk_n wk_0))))))))))))))))) (fun _ => (xg_st [some (pin pa0 (o_Biller K cL l_biller)), some (pin pa1 (aLD K (List.map Cd.d (l_letters : List (Int × (Tu (T3 Int Int Int))))))), some (aD K (Cd.d (l_newest : Int))), some (pin pa3 (aTD K (tD (l_sums : (List ((Int × Int) × Int)))))), some (pin pa4 (aTD K (tD (s_83 : (List ((Int × Int) × Int)))))), some (aD K (Cd.d (l_bearer_49 : Int))), some (aD K (Cd.d (l_way_84 : Int))), some (aD K (Cd.d (0 : Int))), none, none] rfl (xg_nilS (wk_k (wk_k (wk_k (wk_k (wk_k (wk_k (wk_k (wk_k (wk_n (wk_n wk_0))))))))))))) (fun s_106 => (xg_st [some (pin pa0 (o_Biller K cL l_biller)), some (pin pa1 (aLD K (List.map Cd.d (l_letters : List (Int × (Tu (T3 Int Int Int))))))), some (aD K (Cd.d (l_newest : Int))), some (pin pa3 (aTD K (tD (l_sums : (List ((Int × Int) × Int)))))), some (pin pa4 (aTD K (tD (s_83 : (List ((Int × Int) × Int)))))), some (aD K (Cd.d (l_bearer_49 : Int))), some (aD K (Cd.d (l_way_84 : Int))), some (aD K (Cd.d (s_106 : Int))), none, none] rfl (xg_bind fun v_113 hv_113 =>
  (xg_asg 8 (A := aD K (Cd.d (v_113 : Int))) (xe_methX (xx := (l_biller, l_bearer_49, l_way_84)) c_Biller_bill HX.T_Biller.cl nm_Biller_bill (hr.mono (by decide)) hv_113 (xe_nmV 0 rfl) (Own.slot 0 rfl) (xx_of (xa_cons (xe_nm 5 rfl) (xa_cons (xe_nm 6 rfl) xa_nil))) (Own.slot 0 rfl) rfl rfl rfl rfl (Fill.cons 0 (List.Mem.head _) rfl (Own.slot 0 rfl) Fill.nil)) (xg_st [some (pin pa0 (o_Biller K cL l_biller)), some (pin pa1 (aLD K (List.map Cd.d (l_letters : List (Int × (Tu (T3 Int Int Int))))))), some (aD K (Cd.d (l_newest : Int))), some (pin pa3 (aTD K (tD (l_sums : (List ((Int × Int) × Int)))))), some (pin pa4 (aTD K (tD (s_83 : (List ((Int × Int) × Int)))))), some (aD K (Cd.d (l_bearer_49 : Int))), some (aD K (Cd.d (l_way_84 : Int))), some (aD K (Cd.d (s_106 : Int))), some (aD K (Cd.d (v_113 : Int))), none] rfl (xg_ifRB (u := []) (xt_w (xw_or (xt_k (xkc_ne (x := (v_113 : Int)) (y := (s_106 : Int)) hr.units (xe_nm 8 rfl) (xe_nm 7 rfl) rdD rdD)) fun _ => (xw_or (xt_v (xe_isi (T := "int") (xe_nm 8 rfl) (xe_ty (ty := "bool") m_bool (by decide +kernel)) rty_data (by decide +kernel) m_isinstance)) fun _ => (xw_or1 (xt_k (xk_gt (xe_nm 8 rfl) (xe_tget2 (kvs0 := l_sums) (kvs := l_sums) (k := (((l_bearer_49 : Int), (l_way_84 : Int)) : Int × Int)) (x := 0) hr.units (xe_nmV 3 rfl) (Own.slot 3 rfl) (xe_tup (ds := [Cd.d (l_bearer_49 : Int), Cd.d (l_way_84 : Int)]) (xa_cons (xe_nm 5 rfl) (xa_cons (xe_nm 6 rfl) xa_nil)) (Nat.le_of_ble_eq_true rfl)) xe_int (Own.slot 3 rfl) ⟨rfl, rfl, rfl, rfl⟩))))))) (fun _ => (xg_st [some (pin pa0 (o_Biller K cL l_biller)), some (pin pa1 (aLD K (List.map Cd.d (l_letters : List (Int × (Tu (T3 Int Int Int))))))), some (aD K (Cd.d (l_newest : Int))), some (pin pa3 (aTD K (tD (l_sums : (List ((Int × Int) × Int)))))), some (pin pa4 (aTD K (tD (s_83 : (List ((Int × Int) × Int)))))), some (aD K (Cd.d (l_bearer_49 : Int))), some (aD K (Cd.d (l_way_84 : Int))), some (aD K (Cd.d (s_106 : Int))), some (aD K (Cd.d (v_113 : Int))), none] rfl (xg_ret (A := (aD K (Cd.d (false : Bool)))) xe_bl (wk_k (wk_k (wk_k (wk_n (wk_k (wk_k (wk_n (wk_n (wk_n (wk_n (wk_n wk_0)))))))))))))) (fun _ => (xg_st [some (pin pa0 (o_Biller K cL l_biller)), some (pin pa1 (aLD K (List.map Cd.d (l_letters : List (Int × (Tu (T3 Int Int Int))))))), some (aD K (Cd.d (l_newest : Int))), some (pin pa3 (aTD K (tD (l_sums : (List ((Int × Int) × Int)))))), some (pin pa4 (aTD K (tD (s_83 : (List ((Int × Int) × Int)))))), some (aD K (Cd.d (l_bearer_49 : Int))), some (aD K (Cd.d (l_way_84 : Int))), some (aD K (Cd.d (s_106 : Int))), some (aD K (Cd.d (v_113 : Int))), none] rfl (xg_ifRB (u := []) (xt_k (xk_lt (xe_nm 8 rfl) (xe_tget2 (kvs0 := s_83) (kvs := s_83) (k := (((l_bearer_49 : Int), (l_way_84 : Int)) : Int × Int)) (x := 0) hr.units (xe_nmV 4 rfl) (Own.slot 4 rfl) (xe_tup (ds := [Cd.d (l_bearer_49 : Int), Cd.d (l_way_84 : Int)]) (xa_cons (xe_nm 5 rfl) (xa_cons (xe_nm 6 rfl) xa_nil)) (Nat.le_of_ble_eq_true rfl)) xe_int (Own.slot 4 rfl) ⟨rfl, rfl, rfl, rfl⟩))) (fun _ => (xg_st [some (pin pa0 (o_Biller K cL l_biller)), some (pin pa1 (aLD K (List.map Cd.d (l_letters : List (Int × (Tu (T3 Int Int Int))))))), some (aD K (Cd.d (l_newest : Int))), some (pin pa3 (aTD K (tD (l_sums : (List ((Int × Int) × Int)))))), some (pin pa4 (aTD K (tD (s_83 : (List ((Int × Int) × Int)))))), some (aD K (Cd.d (l_bearer_49 : Int))), some (aD K (Cd.d (l_way_84 : Int))), some (aD K (Cd.d (s_106 : Int))), some (aD K (Cd.d (v_113 : Int))), none] rfl (xg_ret (A := (aD K (Cd.d (false : Bool)))) xe_bl (wk_k (wk_k (wk_k (wk_n (wk_k (wk_k (wk_n (wk_n (wk_n (wk_n (wk_n wk_0)))))))))))))) (fun _ => (xg_st [some (pin pa0 (o_Biller K cL l_biller)), some (pin pa1 (aLD K (List.map Cd.d (l_letters : List (Int × (Tu (T3 Int Int Int))))))), some (aD K (Cd.d (l_newest : Int))), some (pin pa3 (aTD K (tD (l_sums : (List ((Int × Int) × Int)))))), some (pin pa4 (aTD K (tD (s_83 : (List ((Int × Int) × Int)))))), some (aD K (Cd.d (l_bearer_49 : Int))), some (aD K (Cd.d (l_way_84 : Int))), some (aD K (Cd.d (s_106 : Int))), some (aD K (Cd.d (v_113 : Int))), none] rfl (xg_bind fun g_114 hg_114 =>
  (xg_tput (kvs := s_83) (k := (((l_bearer_49 : Int), (l_way_84 : Int)) : Int × Int)) (x := v_113) hr.units (guardO_eq hg_114) (xe_nm 8 rfl) (xe_nmV 4 rfl) (xe_tup (ds := [Cd.d (l_bearer_49 : Int), Cd.d (l_way_84 : Int)]) (xa_cons (xe_nm 5 rfl) (xa_cons (xe_nm 6 rfl) xa_nil)) (Nat.le_of_ble_eq_true rfl)) (Own.slot 4 rfl) (xg_st [some (pin pa0 (o_Biller K cL l_biller)), some (pin pa1 (aLD K (List.map Cd.d (l_letters : List (Int × (Tu (T3 Int Int Int))))))), some (aD K (Cd.d (l_newest : Int))), some (pin pa3 (aTD K (tD (l_sums : (List ((Int × Int) × Int)))))), some (pin pa4 (aTD K (tD ((tPut s_83 (((l_bearer_49 : Int), (l_way_84 : Int)) : Int × Int) v_113) : (List ((Int × Int) × Int)))))), some (aD K (Cd.d (l_bearer_49 : Int))), some (aD K (Cd.d (l_way_84 : Int))), some (aD K (Cd.d (s_106 : Int))), some (aD K (Cd.d (v_113 : Int))), none] rfl (xg_nilB (wk_k (wk_k (wk_k (wk_k (wk_k (wk_k (wk_n (wk_n (wk_n (wk_n wk_0)))))))))))))))))))))))))))))) (fun s_115 => (xg_st [some (pin pa0 (o_Biller K cL l_biller)), some (pin pa1 (aLD K (List.map Cd.d (l_letters : List (Int × (Tu (T3 Int Int Int))))))), some (aD K (Cd.d (l_newest : Int))), some (pin pa3 (aTD K (tD (l_sums : (List ((Int × Int) × Int)))))), some (pin pa4 (aTD K (tD (s_115 : (List ((Int × Int) × Int)))))), some (aD K (Cd.d (l_bearer_49 : Int))), none, none, none, none] rfl (xg_nilB (wk_k (wk_k (wk_k (wk_k (wk_k (wk_n (wk_n (wk_n (wk_n (wk_n wk_0)))))))))))))))) (fun s_116 => (xg_st [some (pin pa0 (o_Biller K cL l_biller)), some (pin pa1 (aLD K (List.map Cd.d (l_letters : List (Int × (Tu (T3 Int Int Int))))))), some (aD K (Cd.d (l_newest : Int))), some (pin pa3 (aTD K (tD (l_sums : (List ((Int × Int) × Int)))))), some (pin pa4 (aTD K (tD (s_116 : (List ((Int × Int) × Int)))))), none, none, none, none, none] rfl (xg_ret (A := (aD K (Cd.d (true : Bool)))) xe_bl (wk_k (wk_k (wk_k (wk_n (wk_k (wk_k (wk_n (wk_n (wk_n (wk_n (wk_n wk_0))))))))))))))))
def m_law (l_script : (List Int)) : Option Bool :=
  (Option.bind (m_Meter___init__ ) fun v_118 =>
  (Option.bind (m_Biller___init__ ) fun v_120 =>
  (Option.bind (m_Meter_last v_118) fun v_128 =>
  (Option.bind ((if (!(Option.isNone v_128)) = true then some true else (Option.bind (m_Meter_is_settled v_118) fun v_129 => (some (!(decide ((v_129 : Bool) = true))))))) fun c_130 =>
  (if c_130 = true then
  (some false) else
  (Option.bind (m_l_next (l_script, 0, 0, 7) 60) fun v_131 =>
  (Option.bind (guardO (-(2 ^ 62) ≤ (1 + v_131.1) ∧ (1 + v_131.1) < 2 ^ 62)) fun g_132 =>
  (thenR (foldB (fun (s_133 : (((List Int) × Int × Int × Int) × M_Meter × M_Biller × (List ((Int × Int) × Int)) × (List (Int × (Tu (T3 Int Int Int)))) × (List Int) × Int × Int × Bool × (List ((Int × Int) × Int)))) (l_turn_134 : Int) =>
  (Option.bind (m_l_next s_133.1 6) fun v_340 =>
  (thenR (if (decide (v_340.1 < 2)) = true then
  (Option.bind (m_l_next v_340.2 4) fun v_427 =>
  (Option.bind (m_l_next v_427.2 2) fun v_428 =>
  (Option.bind (m_l_next v_428.2 196) fun v_429 =>
  (Option.bind (m_l_next v_429.2 20) fun v_430 =>
  (Option.bind (atI [(1 + v_429.1), 100000000000000000000] (if (decide ((v_430.1 : Int) = 0)) = true then (1 : Int) else 0)) fun x_431 =>
  (Option.bind (m_Meter_add s_133.2.1 v_427.1 v_428.1 x_431) fun v_432 =>
  (Option.bind (guardO (List.length s_133.2.2.2.1 < 1000000)) fun g_433 =>
  (lett (((Option.getD (tGet s_133.2.2.2.1 (((v_427.1 : Int), (v_428.1 : Int)) : Int × Int)) 0) + x_431) : Int) fun e_434 =>
  (some (Sum.inr (v_430.2, v_432, s_133.2.2.1, (tPut s_133.2.2.2.1 (((v_427.1 : Int), (v_428.1 : Int)) : Int × Int) e_434), s_133.2.2.2.2.1, s_133.2.2.2.2.2.1, s_133.2.2.2.2.2.2.1, s_133.2.2.2.2.2.2.2.1, false))))))))))) else
  (thenR (if (decide ((v_340.1 : Int) = 2)) = true then
  (Option.bind (m_Meter_write s_133.2.1) fun v_474 =>
  (Option.bind ((if (!true) = true then some true else (orO (Option.bind (m_l_rows s_133.2.2.2.1) fun v_477 => (some (!(decide ((v_474.1 : (Int × (Tu (T3 Int Int Int)))) = (((((List.length s_133.2.2.2.2.1 : Nat) : Int) + 1) : Int), (v_477 : (Tu (T3 Int Int Int))))))))) (Option.bind (m_Meter_last v_474.2) fun v_478 => (some (!(decide ((v_478 : (Option (Int × (Tu (T3 Int Int Int))))) = (some v_474.1))))))))) fun c_479 =>
  (if c_479 = true then
  Option.map Sum.inl (some false) else
  (Option.bind (guardO (List.length s_133.2.2.2.2.1 < 1000000)) fun g_480 =>
  (some (Sum.inr (v_340.2, v_474.2, s_133.2.2.1, (s_133.2.2.2.2.1 ++ [v_474.1]), s_133.2.2.2.2.2.1, s_133.2.2.2.2.2.2.1, s_133.2.2.2.2.2.2.2.1, true))))))) else
  (thenR (if ((decide (v_340.1 < 5)) && (!(decide ((s_133.2.2.2.2.1 : (List (Int × (Tu (T3 Int Int Int))))) = [])))) = true then
  (Option.bind (m_l_next v_340.2 4) fun v_497 =>
  (Option.bind (m_l_next v_497.2 (min ((List.length s_133.2.2.2.2.1 : Nat) : Int) (1 + v_497.1))) fun v_498 =>
  (Option.bind (atI s_133.2.2.2.2.1 ((-1) - v_498.1)) fun x_499 =>
  (lett ((max s_133.2.2.2.2.2.2.1 x_499.1) : Int) fun l_newest_500 =>
  (Option.bind (m_Biller_take s_133.2.2.1 x_499) fun v_501 =>
  (if ((!(decide ((v_501.1 : Int) = l_newest_500))) || false) = true then
  Option.map Sum.inl (some false) else
  (Option.bind (guardO (List.length s_133.2.2.2.2.2.1 < 1000000)) fun g_502 =>
  (some (Sum.inr (v_498.2, s_133.2.1, v_501.2, (s_133.2.2.2.2.2.1 ++ [v_501.1]), l_newest_500, s_133.2.2.2.2.2.2.2.1)))))))))) else
  (Option.bind (if ((decide ((v_340.1 : Int) = 5)) && (!(decide ((s_133.2.2.2.2.2.1 : (List Int)) = [])))) = true then
  (Option.bind (m_l_next v_340.2 ((List.length s_133.2.2.2.2.2.1 : Nat) : Int)) fun v_508 =>
  (Option.bind (atI s_133.2.2.2.2.2.1 v_508.1) fun x_509 =>
  (lett ((max s_133.2.2.2.2.2.2.2.1 x_509) : Int) fun l_known_510 =>
  (Option.bind (m_Meter_take s_133.2.1 x_509) fun v_511 =>
  (some (v_508.2, v_511, l_known_510)))))) else
  (some (v_340.2, s_133.2.1, s_133.2.2.2.2.2.2.2.1))) fun s_507 =>
  (some (Sum.inr (s_507.1, s_507.2.1, s_133.2.2.1, s_133.2.2.2.2.2.1, s_133.2.2.2.2.2.2.1, s_507.2.2))))) (fun s_496 =>
  (some (Sum.inr (s_496.1, s_496.2.1, s_496.2.2.1, s_133.2.2.2.2.1, s_496.2.2.2.1, s_496.2.2.2.2.1, s_496.2.2.2.2.2, s_133.2.2.2.2.2.2.2.2.1)))) Sum.inl)) (fun s_473 =>
  (some (Sum.inr (s_473.1, s_473.2.1, s_473.2.2.1, s_133.2.2.2.1, s_473.2.2.2.1, s_473.2.2.2.2.1, s_473.2.2.2.2.2.1, s_473.2.2.2.2.2.2.1, s_473.2.2.2.2.2.2.2)))) Sum.inl)) (fun s_426 =>
  (Option.bind (m_Meter_is_settled s_426.2.1) fun v_512 =>
  (if ((!true) || (!(decide ((v_512 : Bool) = (s_426.2.2.2.2.2.2.2.2 && (decide ((s_426.2.2.2.2.2.2.2.1 : Int) = ((List.length s_426.2.2.2.2.1 : Nat) : Int)))))))) = true then
  Option.map Sum.inl (some false) else
  (Option.bind (m_l_bills s_426.2.2.1 s_426.2.2.2.2.1 s_426.2.2.2.2.2.2.1 s_426.2.2.2.1 s_133.2.2.2.2.2.2.2.2.2) fun v_513 =>
  (if (!v_513.1) = true then
  Option.map Sum.inl (some false) else
  (thenR (foldB (fun (s_516 : Unit) (l_name_517 : (Int × Int)) =>
  (Option.bind (m_Meter_metered s_426.2.1 l_name_517.1 l_name_517.2) fun v_538 =>
  (Option.bind (tGet v_513.2.2.2.1 (l_name_517 : Int × Int)) fun d_539 =>
  (Option.bind ((if (!(decide ((v_538 : Int) = d_539))) = true then some true else (Option.bind ((if v_512 = true then (Option.bind (m_Biller_bill v_513.2.1 l_name_517.1 l_name_517.2) fun v_541 => (some (!(decide ((v_541 : Int) = d_539))))) else some false)) fun c_542 => (some c_542)))) fun c_543 =>
  (if c_543 = true then
  Option.map Sum.inl (some false) else
  (some (Sum.inr ()))))))) (tKeys v_513.2.2.2.1) ()) (fun s_544 =>
  (some (Sum.inr (s_426.1, s_426.2.1, v_513.2.1, v_513.2.2.2.1, v_513.2.2.1, s_426.2.2.2.2.2.1, s_426.2.2.2.2.2.2.1, s_426.2.2.2.2.2.2.2.1, s_426.2.2.2.2.2.2.2.2, v_513.2.2.2.2)))) Sum.inl)))))) Sum.inl))) (rangeI 0 (Int.toNat (1 + v_131.1))) (v_131.2, v_118, v_120, ([] : (List ((Int × Int) × Int))), ([] : (List (Int × (Tu (T3 Int Int Int))))), ([] : (List Int)), 0, 0, true, ([] : (List ((Int × Int) × Int))))) (fun s_545 =>
  (Option.bind (m_Meter_metered s_545.2.1 9 0) fun v_546 =>
  (some (decide ((v_546 : Int) = 0))))) id))))))))
abbrev sp_law (K : PySem.W.Frag) (cL : CLs) : Sp := SpM (fun x : (List Int) => [aR K (List.map Cd.d (x : List Int))]) (fun x => m_law x) (fun x (r : Bool) => [none]) (fun _ r => (aD K (Cd.d (r : Bool))))
abbrev s_law : Stmt := topS 7
theorem sc_law : FnScope ["_law_script", "_law_tape", "_law_meter", "_law_biller", "_law_sums", "_law_letters", "_law_answers", "_law_newest", "_law_known", "_law_clean", "_law_before", "_law_turn", "_law_kind", "_law_settled", "_law_name", "_law_bearer", "_law_way", "_law_size", "_law_letter", "_law_answer"] ["_law_script"] (defScope s_law) := ⟨rfl, rfl, rfl, by decide +kernel, rfl, by decide +kernel, by decide +kernel⟩
set_option maxHeartbeats 4000000 in
theorem ok_law {P : Program} {w : World} {K : PySem.W.Frag} {mg : Str → Option Value} {base : Heap} {f : Addr} {cL : CLs} {fd : FuncData} (F : Fun K "law" "law" s_law f fd) (HX : HXs K mg cL)(m_bool : mg "bool" = none) (m_int : mg "int" = none) (m_isinstance : mg "isinstance" = none) (m_len : mg "len" = none) (m_list : mg "list" = none) (m_max : mg "max" = none) (m_min : mg "min" = none) (m_range : mg "range" = none) (m_tuple : mg "tuple" = none) (c_Biller___init__ : CalC P w K mg base 1 cL.cl_Biller "Biller" (sp_Biller___init__ K cL)) (c_Biller_bill : CalM P w K mg base 1 cL.cl_Biller "bill" (sp_Biller_bill K cL)) (c_Biller_take : CalM P w K mg base 1 cL.cl_Biller "take" (sp_Biller_take K cL)) (c_Meter___init__ : CalC P w K mg base 1 cL.cl_Meter "Meter" (sp_Meter___init__ K cL)) (c_Meter_add : CalM P w K mg base 2 cL.cl_Meter "add" (sp_Meter_add K cL)) (c_Meter_is_settled : CalM P w K mg base 1 cL.cl_Meter "is_settled" (sp_Meter_is_settled K cL)) (c_Meter_last : CalM P w K mg base 1 cL.cl_Meter "last" (sp_Meter_last K cL)) (c_Meter_metered : CalM P w K mg base 1 cL.cl_Meter "metered" (sp_Meter_metered K cL)) (c_Meter_take : CalM P w K mg base 1 cL.cl_Meter "take" (sp_Meter_take K cL)) (c_Meter_write : CalM P w K mg base 1 cL.cl_Meter "write" (sp_Meter_write K cL)) (c_l_bills : Cal P w K mg base 2 "_law_bills" (sp_l_bills K cL)) (c_l_next : Cal P w K mg base 1 "_law_next" (sp_l_next K cL)) (c_l_rows : Cal P w K mg base 1 "_law_rows" (sp_l_rows K cL)) : FnOk P w K mg base CX0 3 f fd ["_law_script"] (sp_law K cL) :=
  fn_ok (k := 2) [false] F sc_law rfl (fun _ => rfl) (fun _ _ => rfl) fun x vs cdv A outer s H E hv hr => by
    match x, vs, hv with
    | l_script, [pa0], _ =>
      have nd := sc_law.nd
      show XG _ _ [some (aR K (List.map Cd.d (l_script : List Int))), none, none, none, none, none, none, none, none, none, none, none, none, none, none, none, none, none, none, none] (m_law l_script) (oR fun r : Bool => [some ((aD K (Cd.d (r : Bool)))), none, none, none, none, none, none, none, none, none, none, none, none, none, none, none, none, none, none, none, none])
      unfold m_law
      exact (xg_st [some (aR K (List.map Cd.d (l_script : List Int))), none, none, none, none, none, none, none, none, none, none, none, none, none, none, none, none, none, none, none] rfl (xg_asgP 1 (xe_is (B := (aL [(aD K (Cd.d ((l_script, 0, 0, 7).1 : (List Int)))), (aD K (Cd.d ((l_script, 0, 0, 7).2.1 : Int))), (aD K (Cd.d ((l_script, 0, 0, 7).2.2.1 : Int))), (aD K (Cd.d ((l_script, 0, 0, 7).2.2.2 : Int)))])) (xe_lst (xa_cons (xe_frz (xe_list (xe_nmR 0 rfl) rlR m_list)) (xa_cons xe_int (xa_cons xe_int (xa_cons xe_int xa_nil)))) (Nat.le_of_ble_eq_true rfl)) rfl) fun pv_117 => (xg_st [some (aR K (List.map Cd.d (l_script : List Int))), some (pin pv_117 (aL [(aD K (Cd.d ((l_script, 0, 0, 7).1 : (List Int)))), (aD K (Cd.d ((l_script, 0, 0, 7).2.1 : Int))), (aD K (Cd.d ((l_script, 0, 0, 7).2.2.1 : Int))), (aD K (Cd.d ((l_script, 0, 0, 7).2.2.2 : Int)))])), none, none, none, none, none, none, none, none, none, none, none, none, none, none, none, none, none, none] rfl (xg_bind fun v_118 hv_118 =>
  (xg_asgP 2 (xe_make0 (xx := ()) c_Meter___init__ (hr.mono (by decide)) hv_118 rfl rfl rfl) fun pv_119 => (xg_st [some (aR K (List.map Cd.d (l_script : List Int))), some (pin pv_117 (aL [(aD K (Cd.d ((l_script, 0, 0, 7).1 : (List Int)))), (aD K (Cd.d ((l_script, 0, 0, 7).2.1 : Int))), (aD K (Cd.d ((l_script, 0, 0, 7).2.2.1 : Int))), (aD K (Cd.d ((l_script, 0, 0, 7).2.2.2 : Int)))])), some (pin pv_119 (o_Meter K cL v_118)), none, none, none, none, none, none, none, none, none, none, none, none, none, none, none, none, none] rfl (xg_bind fun v_120 hv_120 =>
  (xg_asgP 3 (xe_make0 (xx := ()) c_Biller___init__ (hr.mono (by decide)) hv_120 rfl rfl rfl) fun pv_121 => (xg_st [some (aR K (List.map Cd.d (l_script : List Int))), some (pin pv_117 (aL [(aD K (Cd.d ((l_script, 0, 0, 7).1 : (List Int)))), (aD K (Cd.d ((l_script, 0, 0, 7).2.1 : Int))), (aD K (Cd.d ((l_script, 0, 0, 7).2.2.1 : Int))), (aD K (Cd.d ((l_script, 0, 0, 7).2.2.2 : Int)))])), some (pin pv_119 (o_Meter K cL v_118)), some (pin pv_121 (o_Biller K cL v_120)), none, none, none, none, none, none, none, none, none, none, none, none, none, none, none, none] rfl (xg_asgP 4 (xe_tnew (α := Int)) fun pv_122 => (xg_st [some (aR K (List.map Cd.d (l_script : List Int))), some (pin pv_117 (aL [(aD K (Cd.d ((l_script, 0, 0, 7).1 : (List Int)))), (aD K (Cd.d ((l_script, 0, 0, 7).2.1 : Int))), (aD K (Cd.d ((l_script, 0, 0, 7).2.2.1 : Int))), (aD K (Cd.d ((l_script, 0, 0, 7).2.2.2 : Int)))])), some (pin pv_119 (o_Meter K cL v_118)), some (pin pv_121 (o_Biller K cL v_120)), some (pin pv_122 (aTD K (tD (([] : (List ((Int × Int) × Int))) : (List ((Int × Int) × Int)))))), none, none, none, none, none, none, none, none, none, none, none, none, none, none, none] rfl (xg_asgP 5 (xe_is (B := (aLD K (List.map Cd.d (([] : (List (Int × (Tu (T3 Int Int Int))))) : List (Int × (Tu (T3 Int Int Int))))))) (xe_lst xa_nil (Nat.le_of_ble_eq_true rfl)) rfl) fun pv_123 => (xg_st [some (aR K (List.map Cd.d (l_script : List Int))), some (pin pv_117 (aL [(aD K (Cd.d ((l_script, 0, 0, 7).1 : (List Int)))), (aD K (Cd.d ((l_script, 0, 0, 7).2.1 : Int))), (aD K (Cd.d ((l_script, 0, 0, 7).2.2.1 : Int))), (aD K (Cd.d ((l_script, 0, 0, 7).2.2.2 : Int)))])), some (pin pv_119 (o_Meter K cL v_118)), some (pin pv_121 (o_Biller K cL v_120)), some (pin pv_122 (aTD K (tD (([] : (List ((Int × Int) × Int))) : (List ((Int × Int) × Int)))))), some (pin pv_123 (aLD K (List.map Cd.d (([] : (List (Int × (Tu (T3 Int Int Int))))) : List (Int × (Tu (T3 Int Int Int))))))), none, none, none, none, none, none, none, none, none, none, none, none, none, none] rfl (xg_asgP 6 (xe_is (B := (aLD K (List.map Cd.d (([] : (List Int)) : List Int)))) (xe_lst xa_nil (Nat.le_of_ble_eq_true rfl)) rfl) fun pv_124 => (xg_st [some (aR K (List.map Cd.d (l_script : List Int))), some (pin pv_117 (aL [(aD K (Cd.d ((l_script, 0, 0, 7).1 : (List Int)))), (aD K (Cd.d ((l_script, 0, 0, 7).2.1 : Int))), (aD K (Cd.d ((l_script, 0, 0, 7).2.2.1 : Int))), (aD K (Cd.d ((l_script, 0, 0, 7).2.2.2 : Int)))])), some (pin pv_119 (o_Meter K cL v_118)), some (pin pv_121 (o_Biller K cL v_120)), some (pin pv_122 (aTD K (tD (([] : (List ((Int × Int) × Int))) : (List ((Int × Int) × Int)))))), some (pin pv_123 (aLD K (List.map Cd.d (([] : (List (Int × (Tu (T3 Int Int Int))))) : List (Int × (Tu (T3 Int Int Int))))))), some (pin pv_124 (aLD K (List.map Cd.d (([] : (List Int)) : List Int)))), none, none, none, none, none, none, none, none, none, none, none, none, none] rfl (xg_asg 7 (A := aD K (Cd.d (0 : Int))) xe_int (xg_st [some (aR K (List.map Cd.d (l_script : List Int))), some (pin pv_117 (aL [(aD K (Cd.d ((l_script, 0, 0, 7).1 : (List Int)))), (aD K (Cd.d ((l_script, 0, 0, 7).2.1 : Int))), (aD K (Cd.d ((l_script, 0, 0, 7).2.2.1 : Int))), (aD K (Cd.d ((l_script, 0, 0, 7).2.2.2 : Int)))])), some (pin pv_119 (o_Meter K cL v_118)), some (pin pv_121 (o_Biller K cL v_120)), some (pin pv_122 (aTD K (tD (([] : (List ((Int × Int) × Int))) : (List ((Int × Int) × Int)))))), some (pin pv_123 (aLD K (List.map Cd.d (([] : (List (Int × (Tu (T3 Int Int Int))))) : List (Int × (Tu (T3 Int Int Int))))))), some (pin pv_124 (aLD K (List.map Cd.d (([] : (List Int)) : List Int)))), some (aD K (Cd.d (0 : Int))), none, none, none, none, none, none, none, none, none, none, none, none] rfl (xg_asg 8 (A := aD K (Cd.d (0 : Int))) xe_int (xg_st [some (aR K (List.map Cd.d (l_script : List Int))), some (pin pv_117 (aL [(aD K (Cd.d ((l_script, 0, 0, 7).1 : (List Int)))), (aD K (Cd.d ((l_script, 0, 0, 7).2.1 : Int))), (aD K (Cd.d ((l_script, 0, 0, 7).2.2.1 : Int))), (aD K (Cd.d ((l_script, 0, 0, 7).2.2.2 : Int)))])), some (pin pv_119 (o_Meter K cL v_118)), some (pin pv_121 (o_Biller K cL v_120)), some (pin pv_122 (aTD K (tD (([] : (List ((Int × Int) × Int))) : (List ((Int × Int) × Int)))))), some (pin pv_123 (aLD K (List.map Cd.d (([] : (List (Int × (Tu (T3 Int Int Int))))) : List (Int × (Tu (T3 Int Int Int))))))), some (pin pv_124 (aLD K (List.map Cd.d (([] : (List Int)) : List Int)))), some (aD K (Cd.d (0 : Int))), some (aD K (Cd.d (0 : Int))), none, none, none, none, none, none, none, none, none, none, none] rfl (xg_asg 9 (A := aD K (Cd.d (true : Bool))) xe_bl (xg_st [some (aR K (List.map Cd.d (l_script : List Int))), some (pin pv_117 (aL [(aD K (Cd.d ((l_script, 0, 0, 7).1 : (List Int)))), (aD K (Cd.d ((l_script, 0, 0, 7).2.1 : Int))), (aD K (Cd.d ((l_script, 0, 0, 7).2.2.1 : Int))), (aD K (Cd.d ((l_script, 0, 0, 7).2.2.2 : Int)))])), some (pin pv_119 (o_Meter K cL v_118)), some (pin pv_121 (o_Biller K cL v_120)), some (pin pv_122 (aTD K (tD (([] : (List ((Int × Int) × Int))) : (List ((Int × Int) × Int)))))), some (pin pv_123 (aLD K (List.map Cd.d (([] : (List (Int × (Tu (T3 Int Int Int))))) : List (Int × (Tu (T3 Int Int Int))))))), some (pin pv_124 (aLD K (List.map Cd.d (([] : (List Int)) : List Int)))), some (aD K (Cd.d (0 : Int))), some (aD K (Cd.d (0 : Int))), some (aD K (Cd.d (true : Bool))), none, none, none, none, none, none, none, none, none, none] rfl (xg_asgP 10 (xe_tnew (α := Int)) fun pv_125 => (xg_st [some (aR K (List.map Cd.d (l_script : List Int))), some (pin pv_117 (aL [(aD K (Cd.d ((l_script, 0, 0, 7).1 : (List Int)))), (aD K (Cd.d ((l_script, 0, 0, 7).2.1 : Int))), (aD K (Cd.d ((l_script, 0, 0, 7).2.2.1 : Int))), (aD K (Cd.d ((l_script, 0, 0, 7).2.2.2 : Int)))])), some (pin pv_119 (o_Meter K cL v_118)), some (pin pv_121 (o_Biller K cL v_120)), some (pin pv_122 (aTD K (tD (([] : (List ((Int × Int) × Int))) : (List ((Int × Int) × Int)))))), some (pin pv_123 (aLD K (List.map Cd.d (([] : (List (Int × (Tu (T3 Int Int Int))))) : List (Int × (Tu (T3 Int Int Int))))))), some (pin pv_124 (aLD K (List.map Cd.d (([] : (List Int)) : List Int)))), some (aD K (Cd.d (0 : Int))), some (aD K (Cd.d (0 : Int))), some (aD K (Cd.d (true : Bool))), some (pin pv_125 (aTD K (tD (([] : (List ((Int × Int) × Int))) : (List ((Int × Int) × Int)))))), none, none, none, none, none, none, none, none, none] rfl (xg_bind fun v_128 hv_128 =>
  (xg_bind fun c_130 hc_130 =>
  (xg_ifR (u := []) (xt_w (xw_orM (xt_k (xk_notNone (xe_methX0 (xx := v_118) c_Meter_last HX.T_Meter.cl nm_Meter_last (hr.mono (by decide)) hv_128 (xe_nmV 2 rfl) (Own.slot 2 rfl) (Own.slot 2 rfl) rfl rfl rfl (Fill.cons 0 (List.Mem.head _) rfl (Own.slot 2 rfl) Fill.nil)) (isN_opt v_128))) (xwm_or1 (xtm_bind fun v_129 hv_129 => (xtm_some (xt_k (xk_notBl (k1 := v_129) (k2 := true) (xe_is (B := aD K (Cd.d (v_129 : Bool))) (xe_methX0 (xx := v_118) c_Meter_is_settled HX.T_Meter.cl nm_Meter_is_settled (hr.mono (by decide)) hv_129 (xe_nmV 2 rfl) (Own.slot 2 rfl) (Own.slot 2 rfl) rfl rfl rfl (Fill.cons 0 (List.Mem.head _) rfl (Own.slot 2 rfl) Fill.nil)) rfl) xe_bl))))) hc_130)) (fun _ => (xg_st [some (aR K (List.map Cd.d (l_script : List Int))), some (pin pv_117 (aL [(aD K (Cd.d ((l_script, 0, 0, 7).1 : (List Int)))), (aD K (Cd.d ((l_script, 0, 0, 7).2.1 : Int))), (aD K (Cd.d ((l_script, 0, 0, 7).2.2.1 : Int))), (aD K (Cd.d ((l_script, 0, 0, 7).2.2.2 : Int)))])), some (pin pv_119 (o_Meter K cL v_118)), some (pin pv_121 (o_Biller K cL v_120)), some (pin pv_122 (aTD K (tD (([] : (List ((Int × Int) × Int))) : (List ((Int × Int) × Int)))))), some (pin pv_123 (aLD K (List.map Cd.d (([] : (List (Int × (Tu (T3 Int Int Int))))) : List (Int × (Tu (T3 Int Int Int))))))), some (pin pv_124 (aLD K (List.map Cd.d (([] : (List Int)) : List Int)))), some (aD K (Cd.d (0 : Int))), some (aD K (Cd.d (0 : Int))), some (aD K (Cd.d (true : Bool))), some (pin pv_125 (aTD K (tD (([] : (List ((Int × Int) × Int))) : (List ((Int × Int) × Int)))))), none, none, none, none, none, none, none, none, none] rfl (xg_ret (A := (aD K (Cd.d (false : Bool)))) xe_bl (wk_k (wk_n (wk_n (wk_n (wk_n (wk_n (wk_n (wk_n (wk_n (wk_n (wk_n (wk_n (wk_n (wk_n (wk_n (wk_n (wk_n (wk_n (wk_n (wk_n (wk_n wk_0)))))))))))))))))))))))) (fun _ => (xg_st [some (aR K (List.map Cd.d (l_script : List Int))), some (pin pv_117 (aL [(aD K (Cd.d ((l_script, 0, 0, 7).1 : (List Int)))), (aD K (Cd.d ((l_script, 0, 0, 7).2.1 : Int))), (aD K (Cd.d ((l_script, 0, 0, 7).2.2.1 : Int))), (aD K (Cd.d ((l_script, 0, 0, 7).2.2.2 : Int)))])), some (pin pv_119 (o_Meter K cL v_118)), some (pin pv_121 (o_Biller K cL v_120)), some (pin pv_122 (aTD K (tD (([] : (List ((Int × Int) × Int))) : (List ((Int × Int) × Int)))))), some (pin pv_123 (aLD K (List.map Cd.d (([] : (List (Int × (Tu (T3 Int Int Int))))) : List (Int × (Tu (T3 Int Int Int))))))), some (pin pv_124 (aLD K (List.map Cd.d (([] : (List Int)) : List Int)))), some (aD K (Cd.d (0 : Int))), some (aD K (Cd.d (0 : Int))), some (aD K (Cd.d (true : Bool))), some (pin pv_125 (aTD K (tD (([] : (List ((Int × Int) × Int))) : (List ((Int × Int) × Int)))))), none, none, none, none, none, none, none, none, none] rfl (xg_bind fun v_131 hv_131 =>
  (xg_bind fun g_132 hg_132 =>
  (xg_forR (N := (fun s_133 : (((List Int) × Int × Int × Int) × M_Meter × M_Biller × (List ((Int × Int) × Int)) × (List (Int × (Tu (T3 Int Int Int)))) × (List Int) × Int × Int × Bool × (List ((Int × Int) × Int))) => [some (aR K (List.map Cd.d (l_script : List Int))), some (pin pv_117 (aL [(aD K (Cd.d (s_133.1.1 : (List Int)))), (aD K (Cd.d (s_133.1.2.1 : Int))), (aD K (Cd.d (s_133.1.2.2.1 : Int))), (aD K (Cd.d (s_133.1.2.2.2 : Int)))])), some (pin pv_119 (o_Meter K cL s_133.2.1)), some (pin pv_121 (o_Biller K cL s_133.2.2.1)), some (pin pv_122 (aTD K (tD (s_133.2.2.2.1 : (List ((Int × Int) × Int)))))), some (pin pv_123 (aLD K (List.map Cd.d (s_133.2.2.2.2.1 : List (Int × (Tu (T3 Int Int Int))))))), some (pin pv_124 (aLD K (List.map Cd.d (s_133.2.2.2.2.2.1 : List Int)))), some (aD K (Cd.d (s_133.2.2.2.2.2.2.1 : Int))), some (aD K (Cd.d (s_133.2.2.2.2.2.2.2.1 : Int))), some (aD K (Cd.d (s_133.2.2.2.2.2.2.2.2.1 : Bool))), some (pin pv_125 (aTD K (tD (s_133.2.2.2.2.2.2.2.2.2 : (List ((Int × Int) × Int)))))), none, none, none, none, none, none, none, none, none])) PassesOwn.never rfl (xi_range1 (by exact rfl) m_range (xe_add xe_int (xe_callX (xx := ((l_script, 0, 0, 7), 60)) c_l_next (hr.mono (by decide)) hv_131 (xx_lend 0 (xx_of (xa_cons (xe_nmV 1 rfl) (xa_cons xe_int xa_nil))) rfl (Own.slot 1 rfl)) rfl rfl (Fill.cons 0 (List.Mem.head _) rfl (Own.slot 1 rfl) Fill.nil))) (guardO_eq hg_132)) (by exact (wk_k (wk_k (wk_k (wk_k (wk_k (wk_k (wk_k (wk_k (wk_k (wk_k (wk_k (wk_n (wk_n (wk_n (wk_n (wk_n (wk_n (wk_n (wk_n (wk_n wk_0))))))))))))))))))))) (fun _ => trivial) (fun _ _ => (xp_nm 11)) (fun l_turn_134 s_133 => (xg_st [some (aR K (List.map Cd.d (l_script : List Int))), some (pin pv_117 (aL [(aD K (Cd.d (s_133.1.1 : (List Int)))), (aD K (Cd.d (s_133.1.2.1 : Int))), (aD K (Cd.d (s_133.1.2.2.1 : Int))), (aD K (Cd.d (s_133.1.2.2.2 : Int)))])), some (pin pv_119 (o_Meter K cL s_133.2.1)), some (pin pv_121 (o_Biller K cL s_133.2.2.1)), some (pin pv_122 (aTD K (tD (s_133.2.2.2.1 : (List ((Int × Int) × Int)))))), some (pin pv_123 (aLD K (List.map Cd.d (s_133.2.2.2.2.1 : List (Int × (Tu (T3 Int Int Int))))))), some (pin pv_124 (aLD K (List.map Cd.d (s_133.2.2.2.2.2.1 : List Int)))), some (aD K (Cd.d (s_133.2.2.2.2.2.2.1 : Int))), some (aD K (Cd.d (s_133.2.2.2.2.2.2.2.1 : Int))), some (aD K (Cd.d (s_133.2.2.2.2.2.2.2.2.1 : Bool))), some (pin pv_125 (aTD K (tD (s_133.2.2.2.2.2.2.2.2.2 : (List ((Int × Int) × Int)))))), some (aD K (Cd.d (l_turn_134 : Int))), none, none, none, none, none, none, none, none] rfl (xg_bind fun v_340 hv_340 =>
  (xg_asg 12 (A := aD K (Cd.d (v_340.1 : Int))) (xe_callX (xx := (s_133.1, 6)) c_l_next (hr.mono (by decide)) hv_340 (xx_lend 0 (xx_of (xa_cons (xe_nmV 1 rfl) (xa_cons xe_int xa_nil))) rfl (Own.slot 1 rfl)) rfl rfl (Fill.cons 0 (List.Mem.head _) rfl (Own.slot 1 rfl) Fill.nil)) (xg_st [some (aR K (List.map Cd.d (l_script : List Int))), some (pin pv_117 (aL [(aD K (Cd.d (v_340.2.1 : (List Int)))), (aD K (Cd.d (v_340.2.2.1 : Int))), (aD K (Cd.d (v_340.2.2.2.1 : Int))), (aD K (Cd.d (v_340.2.2.2.2 : Int)))])), some (pin pv_119 (o_Meter K cL s_133.2.1)), some (pin pv_121 (o_Biller K cL s_133.2.2.1)), some (pin pv_122 (aTD K (tD (s_133.2.2.2.1 : (List ((Int × Int) × Int)))))), some (pin pv_123 (aLD K (List.map Cd.d (s_133.2.2.2.2.1 : List (Int × (Tu (T3 Int Int Int))))))), some (pin pv_124 (aLD K (List.map Cd.d (s_133.2.2.2.2.2.1 : List Int)))), some (aD K (Cd.d (s_133.2.2.2.2.2.2.1 : Int))), some (aD K (Cd.d (s_133.2.2.2.2.2.2.2.1 : Int))), some (aD K (Cd.d (s_133.2.2.2.2.2.2.2.2.1 : Bool))), some (pin pv_125 (aTD K (tD (s_133.2.2.2.2.2.2.2.2.2 : (List ((Int × Int) × Int)))))), some (aD K (Cd.d (l_turn_134 : Int))), some (aD K (Cd.d (v_340.1 : Int))), none, none, none, none, none, none, none] rfl (xg_ifBB (N := (fun s_426 : (((List Int) × Int × Int × Int) × M_Meter × M_Biller × (List ((Int × Int) × Int)) × (List (Int × (Tu (T3 Int Int Int)))) × (List Int) × Int × Int × Bool) => [some (aR K (List.map Cd.d (l_script : List Int))), some (pin pv_117 (aL [(aD K (Cd.d (s_426.1.1 : (List Int)))), (aD K (Cd.d (s_426.1.2.1 : Int))), (aD K (Cd.d (s_426.1.2.2.1 : Int))), (aD K (Cd.d (s_426.1.2.2.2 : Int)))])), some (pin pv_119 (o_Meter K cL s_426.2.1)), some (pin pv_121 (o_Biller K cL s_426.2.2.1)), some (pin pv_122 (aTD K (tD (s_426.2.2.2.1 : (List ((Int × Int) × Int)))))), some (pin pv_123 (aLD K (List.map Cd.d (s_426.2.2.2.2.1 : List (Int × (Tu (T3 Int Int Int))))))), some (pin pv_124 (aLD K (List.map Cd.d (s_426.2.2.2.2.2.1 : List Int)))), some (aD K (Cd.d (s_426.2.2.2.2.2.2.1 : Int))), some (aD K (Cd.d (s_426.2.2.2.2.2.2.2.1 : Int))), some (aD K (Cd.d (s_426.2.2.2.2.2.2.2.2 : Bool))), some (pin pv_125 (aTD K (tD (s_133.2.2.2.2.2.2.2.2.2 : (List ((Int × Int) × Int)))))), some (aD K (Cd.d (l_turn_134 : Int))), some (aD K (Cd.d (v_340.1 : Int))), none, none, none, none, none, none, none])) (xt_k (xk_lt (xe_nm 12 rfl) xe_int)) (fun _ => (xg_st [some (aR K (List.map Cd.d (l_script : List Int))), some (pin pv_117 (aL [(aD K (Cd.d (v_340.2.1 : (List Int)))), (aD K (Cd.d (v_340.2.2.1 : Int))), (aD K (Cd.d (v_340.2.2.2.1 : Int))), (aD K (Cd.d (v_340.2.2.2.2 : Int)))])), some (pin pv_119 (o_Meter K cL s_133.2.1)), some (pin pv_121 (o_Biller K cL s_133.2.2.1)), some (pin pv_122 (aTD K (tD (s_133.2.2.2.1 : (List ((Int × Int) × Int)))))), some (pin pv_123 (aLD K (List.map Cd.d (s_133.2.2.2.2.1 : List (Int × (Tu (T3 Int Int Int))))))), some (pin pv_124 (aLD K (List.map Cd.d (s_133.2.2.2.2.2.1 : List Int)))), some (aD K (Cd.d (s_133.2.2.2.2.2.2.1 : Int))), some (aD K (Cd.d (s_133.2.2.2.2.2.2.2.1 : Int))), some (aD K (Cd.d (s_133.2.2.2.2.2.2.2.2.1 : Bool))), some (pin pv_125 (aTD K (tD (s_133.2.2.2.2.2.2.2.2.2 : (List ((Int × Int) × Int)))))), some (aD K (Cd.d (l_turn_134 : Int))), some (aD K (Cd.d (v_340.1 : Int))), none, none, none, none, none, none, none] rfl (xg_bind fun v_427 hv_427 =>
  (xg_asg 15 (A := aD K (Cd.d (v_427.1 : Int))) (xe_callX (xx := (v_340.2, 4)) c_l_next (hr.mono (by decide)) hv_427 (xx_lend 0 (xx_of (xa_cons (xe_nmV 1 rfl) (xa_cons xe_int xa_nil))) rfl (Own.slot 1 rfl)) rfl rfl (Fill.cons 0 (List.Mem.head _) rfl (Own.slot 1 rfl) Fill.nil)) (xg_st [some (aR K (List.map Cd.d (l_script : List Int))), some (pin pv_117 (aL [(aD K (Cd.d (v_427.2.1 : (List Int)))), (aD K (Cd.d (v_427.2.2.1 : Int))), (aD K (Cd.d (v_427.2.2.2.1 : Int))), (aD K (Cd.d (v_427.2.2.2.2 : Int)))])), some (pin pv_119 (o_Meter K cL s_133.2.1)), some (pin pv_121 (o_Biller K cL s_133.2.2.1)), some (pin pv_122 (aTD K (tD (s_133.2.2.2.1 : (List ((Int × Int) × Int)))))), some (pin pv_123 (aLD K (List.map Cd.d (s_133.2.2.2.2.1 : List (Int × (Tu (T3 Int Int Int))))))), some (pin pv_124 (aLD K (List.map Cd.d (s_133.2.2.2.2.2.1 : List Int)))), some (aD K (Cd.d (s_133.2.2.2.2.2.2.1 : Int))), some (aD K (Cd.d (s_133.2.2.2.2.2.2.2.1 : Int))), some (aD K (Cd.d (s_133.2.2.2.2.2.2.2.2.1 : Bool))), some (pin pv_125 (aTD K (tD (s_133.2.2.2.2.2.2.2.2.2 : (List ((Int × Int) × Int)))))), some (aD K (Cd.d (l_turn_134 : Int))), some (aD K (Cd.d (v_340.1 : Int))), none, none, some (aD K (Cd.d (v_427.1 : Int))), none, none, none, none] rfl (xg_bind fun v_428 hv_428 =>
  (xg_asg 16 (A := aD K (Cd.d (v_428.1 : Int))) (xe_callX (xx := (v_427.2, 2)) c_l_next (hr.mono (by decide)) hv_428 (xx_lend 0 (xx_of (xa_cons (xe_nmV 1 rfl) (xa_cons xe_int xa_nil))) rfl (Own.slot 1 rfl)) rfl rfl (Fill.cons 0 (List.Mem.head _) rfl (Own.slot 1 rfl) Fill.nil)) (xg_st [some (aR K (List.map Cd.d (l_script : List Int))), some (pin pv_117 (aL [(aD K (Cd.d (v_428.2.1 : (List Int)))), (aD K (Cd.d (v_428.2.2.1 : Int))), (aD K (Cd.d (v_428.2.2.2.1 : Int))), (aD K (Cd.d (v_428.2.2.2.2 : Int)))])), some (pin pv_119 (o_Meter K cL s_133.2.1)), some (pin pv_121 (o_Biller K cL s_133.2.2.1)), some (pin pv_122 (aTD K (tD (s_133.2.2.2.1 : (List ((Int × Int) × Int)))))), some (pin pv_123 (aLD K (List.map Cd.d (s_133.2.2.2.2.1 : List (Int × (Tu (T3 Int Int Int))))))), some (pin pv_124 (aLD K (List.map Cd.d (s_133.2.2.2.2.2.1 : List Int)))), some (aD K (Cd.d (s_133.2.2.2.2.2.2.1 : Int))), some (aD K (Cd.d (s_133.2.2.2.2.2.2.2.1 : Int))), some (aD K (Cd.d (s_133.2.2.2.2.2.2.2.2.1 : Bool))), some (pin pv_125 (aTD K (tD (s_133.2.2.2.2.2.2.2.2.2 : (List ((Int × Int) × Int)))))), some (aD K (Cd.d (l_turn_134 : Int))), some (aD K (Cd.d (v_340.1 : Int))), none, none, some (aD K (Cd.d (v_427.1 : Int))), some (aD K (Cd.d (v_428.1 : Int))), none, none, none] rfl (xg_bind fun v_429 hv_429 =>
  (xg_bind fun v_430 hv_430 =>
  (xg_bind fun x_431 hx_431 =>
  (xg_asg 17 (A := aD K (Cd.d (x_431 : Int))) (xc_ix (xs := [(1 + v_429.1), 100000000000000000000]) (xe_lstD (xs := ([(1 + v_429.1), 100000000000000000000] : List Int)) (xa_cons (xe_add xe_int (xe_callX (xx := (v_428.2, 196)) c_l_next (hr.mono (by decide)) hv_429 (xx_lend 0 (xx_of (xa_cons (xe_nmV 1 rfl) (xa_cons xe_int xa_nil))) rfl (Own.slot 1 rfl)) rfl rfl (Fill.cons 0 (List.Mem.head _) rfl (Own.slot 1 rfl) Fill.nil))) (xa_cons (xe_isI (xe_pow (by decide) xe_int xe_int) (by decide)) xa_nil)) (Nat.le_of_ble_eq_true rfl)) (xe_int1b (xe_k (xkc_eq (x := (v_430.1 : Int)) (y := (0 : Int)) hr.units (xe_callX (xx := (v_429.2, 20)) c_l_next (hr.mono (by decide)) hv_430 (xx_lend 0 (xx_of (xa_cons (xe_nmV 1 rfl) (xa_cons xe_int xa_nil))) rfl (Own.slot 1 rfl)) rfl rfl (Fill.cons 0 (List.Mem.head _) rfl (Own.slot 1 rfl) Fill.nil)) xe_int rdD rdD)) m_int) (Rlm.ls rmL) hx_431) (xg_st [some (aR K (List.map Cd.d (l_script : List Int))), some (pin pv_117 (aL [(aD K (Cd.d (v_430.2.1 : (List Int)))), (aD K (Cd.d (v_430.2.2.1 : Int))), (aD K (Cd.d (v_430.2.2.2.1 : Int))), (aD K (Cd.d (v_430.2.2.2.2 : Int)))])), some (pin pv_119 (o_Meter K cL s_133.2.1)), some (pin pv_121 (o_Biller K cL s_133.2.2.1)), some (pin pv_122 (aTD K (tD (s_133.2.2.2.1 : (List ((Int × Int) × Int)))))), some (pin pv_123 (aLD K (List.map Cd.d (s_133.2.2.2.2.1 : List (Int × (Tu (T3 Int Int Int))))))), some (pin pv_124 (aLD K (List.map Cd.d (s_133.2.2.2.2.2.1 : List Int)))), some (aD K (Cd.d (s_133.2.2.2.2.2.2.1 : Int))), some (aD K (Cd.d (s_133.2.2.2.2.2.2.2.1 : Int))), some (aD K (Cd.d (s_133.2.2.2.2.2.2.2.2.1 : Bool))), some (pin pv_125 (aTD K (tD (s_133.2.2.2.2.2.2.2.2.2 : (List ((Int × Int) × Int)))))), some (aD K (Cd.d (l_turn_134 : Int))), some (aD K (Cd.d (v_340.1 : Int))), none, none, some (aD K (Cd.d (v_427.1 : Int))), some (aD K (Cd.d (v_428.1 : Int))), some (aD K (Cd.d (x_431 : Int))), none, none] rfl (xg_bind fun v_432 hv_432 =>
  (xg_expr (xe_methX (xx := (s_133.2.1, v_427.1, v_428.1, x_431)) c_Meter_add HX.T_Meter.cl nm_Meter_add (hr.mono (by decide)) hv_432 (xe_nmV 2 rfl) (Own.slot 2 rfl) (xx_of (xa_cons (xe_nm 15 rfl) (xa_cons (xe_nm 16 rfl) (xa_cons (xe_nm 17 rfl) xa_nil)))) (Own.slot 2 rfl) rfl rfl rfl rfl (Fill.cons 0 (List.Mem.head _) rfl (Own.slot 2 rfl) Fill.nil)) (xg_st [some (aR K (List.map Cd.d (l_script : List Int))), some (pin pv_117 (aL [(aD K (Cd.d (v_430.2.1 : (List Int)))), (aD K (Cd.d (v_430.2.2.1 : Int))), (aD K (Cd.d (v_430.2.2.2.1 : Int))), (aD K (Cd.d (v_430.2.2.2.2 : Int)))])), some (pin pv_119 (o_Meter K cL v_432)), some (pin pv_121 (o_Biller K cL s_133.2.2.1)), some (pin pv_122 (aTD K (tD (s_133.2.2.2.1 : (List ((Int × Int) × Int)))))), some (pin pv_123 (aLD K (List.map Cd.d (s_133.2.2.2.2.1 : List (Int × (Tu (T3 Int Int Int))))))), some (pin pv_124 (aLD K (List.map Cd.d (s_133.2.2.2.2.2.1 : List Int)))), some (aD K (Cd.d (s_133.2.2.2.2.2.2.1 : Int))), some (aD K (Cd.d (s_133.2.2.2.2.2.2.2.1 : Int))), some (aD K (Cd.d (s_133.2.2.2.2.2.2.2.2.1 : Bool))), some (pin pv_125 (aTD K (tD (s_133.2.2.2.2.2.2.2.2.2 : (List ((Int × Int) × Int)))))), some (aD K (Cd.d (l_turn_134 : Int))), some (aD K (Cd.d (v_340.1 : Int))), none, none, some (aD K (Cd.d (v_427.1 : Int))), some (aD K (Cd.d (v_428.1 : Int))), some (aD K (Cd.d (x_431 : Int))), none, none] rfl (xg_bind fun g_433 hg_433 =>
  (xg_lett fun e_434 he_434 =>
  (xg_tput (kvs := s_133.2.2.2.1) (k := (((v_427.1 : Int), (v_428.1 : Int)) : Int × Int)) (x := e_434) hr.units (guardO_eq hg_433) (xe_nv (v := (((Option.getD (tGet s_133.2.2.2.1 (((v_427.1 : Int), (v_428.1 : Int)) : Int × Int)) 0) + x_431) : Int)) (xe_add (xe_tget2 (kvs0 := s_133.2.2.2.1) (kvs := s_133.2.2.2.1) (k := (((v_427.1 : Int), (v_428.1 : Int)) : Int × Int)) (x := 0) hr.units (xe_nmV 4 rfl) (Own.slot 4 rfl) (xe_tup (ds := [Cd.d (v_427.1 : Int), Cd.d (v_428.1 : Int)]) (xa_cons (xe_nm 15 rfl) (xa_cons (xe_nm 16 rfl) xa_nil)) (Nat.le_of_ble_eq_true rfl)) xe_int (Own.slot 4 rfl) ⟨rfl, rfl, rfl, rfl⟩) (xe_nm 17 rfl)) he_434) (xe_nmV 4 rfl) (xe_tup (ds := [Cd.d (v_427.1 : Int), Cd.d (v_428.1 : Int)]) (xa_cons (xe_nm 15 rfl) (xa_cons (xe_nm 16 rfl) xa_nil)) (Nat.le_of_ble_eq_true rfl)) (Own.slot 4 rfl) (xg_st [some (aR K (List.map Cd.d (l_script : List Int))), some (pin pv_117 (aL [(aD K (Cd.d (v_430.2.1 : (List Int)))), (aD K (Cd.d (v_430.2.2.1 : Int))), (aD K (Cd.d (v_430.2.2.2.1 : Int))), (aD K (Cd.d (v_430.2.2.2.2 : Int)))])), some (pin pv_119 (o_Meter K cL v_432)), some (pin pv_121 (o_Biller K cL s_133.2.2.1)), some (pin pv_122 (aTD K (tD ((tPut s_133.2.2.2.1 (((v_427.1 : Int), (v_428.1 : Int)) : Int × Int) e_434) : (List ((Int × Int) × Int)))))), some (pin pv_123 (aLD K (List.map Cd.d (s_133.2.2.2.2.1 : List (Int × (Tu (T3 Int Int Int))))))), some (pin pv_124 (aLD K (List.map Cd.d (s_133.2.2.2.2.2.1 : List Int)))), some (aD K (Cd.d (s_133.2.2.2.2.2.2.1 : Int))), some (aD K (Cd.d (s_133.2.2.2.2.2.2.2.1 : Int))), some (aD K (Cd.d (s_133.2.2.2.2.2.2.2.2.1 : Bool))), some (pin pv_125 (aTD K (tD (s_133.2.2.2.2.2.2.2.2.2 : (List ((Int × Int) × Int)))))), some (aD K (Cd.d (l_turn_134 : Int))), some (aD K (Cd.d (v_340.1 : Int))), none, none, some (aD K (Cd.d (v_427.1 : Int))), some (aD K (Cd.d (v_428.1 : Int))), some (aD K (Cd.d (x_431 : Int))), none, none] rfl (xg_asg 9 (A := aD K (Cd.d (false : Bool))) xe_bl (xg_st [some (aR K (List.map Cd.d (l_script : List Int))), some (pin pv_117 (aL [(aD K (Cd.d (v_430.2.1 : (List Int)))), (aD K (Cd.d (v_430.2.2.1 : Int))), (aD K (Cd.d (v_430.2.2.2.1 : Int))), (aD K (Cd.d (v_430.2.2.2.2 : Int)))])), some (pin pv_119 (o_Meter K cL v_432)), some (pin pv_121 (o_Biller K cL s_133.2.2.1)), some (pin pv_122 (aTD K (tD ((tPut s_133.2.2.2.1 (((v_427.1 : Int), (v_428.1 : Int)) : Int × Int) e_434) : (List ((Int × Int) × Int)))))), some (pin pv_123 (aLD K (List.map Cd.d (s_133.2.2.2.2.1 : List (Int × (Tu (T3 Int Int Int))))))), some (pin pv_124 (aLD K (List.map Cd.d (s_133.2.2.2.2.2.1 : List Int)))), some (aD K (Cd.d (s_133.2.2.2.2.2.2.1 : Int))), some (aD K (Cd.d (s_133.2.2.2.2.2.2.2.1 : Int))), some (aD K (Cd.d (false : Bool))), some (pin pv_125 (aTD K (tD (s_133.2.2.2.2.2.2.2.2.2 : (List ((Int × Int) × Int)))))), some (aD K (Cd.d (l_turn_134 : Int))), some (aD K (Cd.d (v_340.1 : Int))), none, none, some (aD K (Cd.d (v_427.1 : Int))), some (aD K (Cd.d (v_428.1 : Int))), some (aD K (Cd.d (x_431 : Int))), none, none] rfl (xg_nilB (wk_k (wk_k (wk_k (wk_k (wk_k (wk_k (wk_k (wk_k (wk_k (wk_k (wk_k (wk_k (wk_k (wk_n (wk_n (wk_n (wk_n (wk_n (wk_n (wk_n wk_0))))))))))))))))))))))))))))))))))))))))))) (fun _ => (xg_st [some (aR K (List.map Cd.d (l_script : List Int))), some (pin pv_117 (aL [(aD K (Cd.d (v_340.2.1 : (List Int)))), (aD K (Cd.d (v_340.2.2.1 : Int))), (aD K (Cd.d (v_340.2.2.2.1 : Int))), (aD K (Cd.d (v_340.2.2.2.2 : Int)))])), some (pin pv_119 (o_Meter K cL s_133.2.1)), some (pin pv_121 (o_Biller K cL s_133.2.2.1)), some (pin pv_122 (aTD K (tD (s_133.2.2.2.1 : (List ((Int × Int) × Int)))))), some (pin pv_123 (aLD K (List.map Cd.d (s_133.2.2.2.2.1 : List (Int × (Tu (T3 Int Int Int))))))), some (pin pv_124 (aLD K (List.map Cd.d (s_133.2.2.2.2.2.1 : List Int)))), some (aD K (Cd.d (s_133.2.2.2.2.2.2.1 : Int))), some (aD K (Cd.d (s_133.2.2.2.2.2.2.2.1 : Int))), some (aD K (Cd.d (s_133.2.2.2.2.2.2.2.2.1 : Bool))), some (pin pv_125 (aTD K (tD (s_133.2.2.2.2.2.2.2.2.2 : (List ((Int × Int) × Int)))))), some (aD K (Cd.d (l_turn_134 : Int))), some (aD K (Cd.d (v_340.1 : Int))), none, none, none, none, none, none, none] rfl (xg_ifBB (N := (fun s_473 : (((List Int) × Int × Int × Int) × M_Meter × M_Biller × (List (Int × (Tu (T3 Int Int Int)))) × (List Int) × Int × Int × Bool) => [some (aR K (List.map Cd.d (l_script : List Int))), some (pin pv_117 (aL [(aD K (Cd.d (s_473.1.1 : (List Int)))), (aD K (Cd.d (s_473.1.2.1 : Int))), (aD K (Cd.d (s_473.1.2.2.1 : Int))), (aD K (Cd.d (s_473.1.2.2.2 : Int)))])), some (pin pv_119 (o_Meter K cL s_473.2.1)), some (pin pv_121 (o_Biller K cL s_473.2.2.1)), some (pin pv_122 (aTD K (tD (s_133.2.2.2.1 : (List ((Int × Int) × Int)))))), some (pin pv_123 (aLD K (List.map Cd.d (s_473.2.2.2.1 : List (Int × (Tu (T3 Int Int Int))))))), some (pin pv_124 (aLD K (List.map Cd.d (s_473.2.2.2.2.1 : List Int)))), some (aD K (Cd.d (s_473.2.2.2.2.2.1 : Int))), some (aD K (Cd.d (s_473.2.2.2.2.2.2.1 : Int))), some (aD K (Cd.d (s_473.2.2.2.2.2.2.2 : Bool))), some (pin pv_125 (aTD K (tD (s_133.2.2.2.2.2.2.2.2.2 : (List ((Int × Int) × Int)))))), some (aD K (Cd.d (l_turn_134 : Int))), some (aD K (Cd.d (v_340.1 : Int))), none, none, none, none, none, none, none])) (xt_k (xkc_eq (x := (v_340.1 : Int)) (y := (2 : Int)) hr.units (xe_nm 12 rfl) xe_int rdD rdD)) (fun _ => (xg_st [some (aR K (List.map Cd.d (l_script : List Int))), some (pin pv_117 (aL [(aD K (Cd.d (v_340.2.1 : (List Int)))), (aD K (Cd.d (v_340.2.2.1 : Int))), (aD K (Cd.d (v_340.2.2.2.1 : Int))), (aD K (Cd.d (v_340.2.2.2.2 : Int)))])), some (pin pv_119 (o_Meter K cL s_133.2.1)), some (pin pv_121 (o_Biller K cL s_133.2.2.1)), some (pin pv_122 (aTD K (tD (s_133.2.2.2.1 : (List ((Int × Int) × Int)))))), some (pin pv_123 (aLD K (List.map Cd.d (s_133.2.2.2.2.1 : List (Int × (Tu (T3 Int Int Int))))))), some (pin pv_124 (aLD K (List.map Cd.d (s_133.2.2.2.2.2.1 : List Int)))), some (aD K (Cd.d (s_133.2.2.2.2.2.2.1 : Int))), some (aD K (Cd.d (s_133.2.2.2.2.2.2.2.1 : Int))), some (aD K (Cd.d (s_133.2.2.2.2.2.2.2.2.1 : Bool))), some (pin pv_125 (aTD K (tD (s_133.2.2.2.2.2.2.2.2.2 : (List ((Int × Int) × Int)))))), some (aD K (Cd.d (l_turn_134 : Int))), some (aD K (Cd.d (v_340.1 : Int))), none, none, none, none, none, none, none] rfl (xg_bind fun v_474 hv_474 =>
  (xg_asg 18 (A := aD K (Cd.d (v_474.1 : (Int × (Tu (T3 Int Int Int)))))) (xe_methX0 (xx := s_133.2.1) c_Meter_write HX.T_Meter.cl nm_Meter_write (hr.mono (by decide)) hv_474 (xe_nmV 2 rfl) (Own.slot 2 rfl) (Own.slot 2 rfl) rfl rfl rfl (Fill.cons 0 (List.Mem.head _) rfl (Own.slot 2 rfl) Fill.nil)) (xg_st [some (aR K (List.map Cd.d (l_script : List Int))), some (pin pv_117 (aL [(aD K (Cd.d (v_340.2.1 : (List Int)))), (aD K (Cd.d (v_340.2.2.1 : Int))), (aD K (Cd.d (v_340.2.2.2.1 : Int))), (aD K (Cd.d (v_340.2.2.2.2 : Int)))])), some (pin pv_119 (o_Meter K cL v_474.2)), some (pin pv_121 (o_Biller K cL s_133.2.2.1)), some (pin pv_122 (aTD K (tD (s_133.2.2.2.1 : (List ((Int × Int) × Int)))))), some (pin pv_123 (aLD K (List.map Cd.d (s_133.2.2.2.2.1 : List (Int × (Tu (T3 Int Int Int))))))), some (pin pv_124 (aLD K (List.map Cd.d (s_133.2.2.2.2.2.1 : List Int)))), some (aD K (Cd.d (s_133.2.2.2.2.2.2.1 : Int))), some (aD K (Cd.d (s_133.2.2.2.2.2.2.2.1 : Int))), some (aD K (Cd.d (s_133.2.2.2.2.2.2.2.2.1 : Bool))), some (pin pv_125 (aTD K (tD (s_133.2.2.2.2.2.2.2.2.2 : (List ((Int × Int) × Int)))))), some (aD K (Cd.d (l_turn_134 : Int))), some (aD K (Cd.d (v_340.1 : Int))), none, none, none, none, none, some (aD K (Cd.d (v_474.1 : (Int × (Tu (T3 Int Int Int)))))), none] rfl (xg_bind fun c_479 hc_479 =>
  (xg_ifRB (u := []) (xt_w (xw_orM (xt_not (xt_v (xe_isi (T := "tuple") (xe_nm 18 rfl) (xe_ty (ty := "tuple") m_tuple (by decide +kernel)) rty_data (by decide +kernel) m_isinstance))) (xwm_or (xtm_bind fun v_477 hv_477 => (xtm_some (xt_k (xkc_ne (x := (v_474.1 : (Int × (Tu (T3 Int Int Int))))) (y := ((((((List.length s_133.2.2.2.2.1 : Nat) : Int) + 1) : Int), (v_477 : (Tu (T3 Int Int Int)))) : (Int × (Tu (T3 Int Int Int))))) hr.units (xe_nm 18 rfl) (xe_tup (ds := [Cd.d ((((List.length s_133.2.2.2.2.1 : Nat) : Int) + 1) : Int), Cd.d (v_477 : (Tu (T3 Int Int Int)))]) (xa_cons (xe_add (xc_len (xs := s_133.2.2.2.2.1) (xe_nmV 5 rfl) (Rlm.ls (rmW (Own.slot 5 rfl))) m_len) xe_int) (xa_cons (xe_callX (xx := s_133.2.2.2.1) c_l_rows (hr.mono (by decide)) hv_477 (xx_lend 0 (xx_of (xa_cons (xe_nmV 4 rfl) xa_nil)) rfl (Own.slot 4 rfl)) rfl rfl (Fill.cons 0 (List.Mem.head _) rfl (Own.slot 4 rfl) Fill.nil)) xa_nil)) (Nat.le_of_ble_eq_true rfl)) rdD rdD)))) (xwm_or1 (xtm_bind fun v_478 hv_478 => (xtm_some (xt_k (xkc_ne (x := (v_478 : (Option (Int × (Tu (T3 Int Int Int)))))) (y := ((some v_474.1) : (Option (Int × (Tu (T3 Int Int Int)))))) hr.units (xe_methX0 (xx := v_474.2) c_Meter_last HX.T_Meter.cl nm_Meter_last (hr.mono (by decide)) hv_478 (xe_nmV 2 rfl) (Own.slot 2 rfl) (Own.slot 2 rfl) rfl rfl rfl (Fill.cons 0 (List.Mem.head _) rfl (Own.slot 2 rfl) Fill.nil)) (xe_nm 18 rfl) rdD rdD)))))) hc_479)) (fun _ => (xg_st [some (aR K (List.map Cd.d (l_script : List Int))), some (pin pv_117 (aL [(aD K (Cd.d (v_340.2.1 : (List Int)))), (aD K (Cd.d (v_340.2.2.1 : Int))), (aD K (Cd.d (v_340.2.2.2.1 : Int))), (aD K (Cd.d (v_340.2.2.2.2 : Int)))])), some (pin pv_119 (o_Meter K cL v_474.2)), some (pin pv_121 (o_Biller K cL s_133.2.2.1)), some (pin pv_122 (aTD K (tD (s_133.2.2.2.1 : (List ((Int × Int) × Int)))))), some (pin pv_123 (aLD K (List.map Cd.d (s_133.2.2.2.2.1 : List (Int × (Tu (T3 Int Int Int))))))), some (pin pv_124 (aLD K (List.map Cd.d (s_133.2.2.2.2.2.1 : List Int)))), some (aD K (Cd.d (s_133.2.2.2.2.2.2.1 : Int))), some (aD K (Cd.d (s_133.2.2.2.2.2.2.2.1 : Int))), some (aD K (Cd.d (s_133.2.2.2.2.2.2.2.2.1 : Bool))), some (pin pv_125 (aTD K (tD (s_133.2.2.2.2.2.2.2.2.2 : (List ((Int × Int) × Int)))))), some (aD K (Cd.d (l_turn_134 : Int))), some (aD K (Cd.d (v_340.1 : Int))), none, none, none, none, none, some (aD K (Cd.d (v_474.1 : (Int × (Tu (T3 Int Int Int)))))), none] rfl (xg_ret (A := (aD K (Cd.d (false : Bool)))) xe_bl (wk_k (wk_n (wk_n (wk_n (wk_n (wk_n (wk_n (wk_n (wk_n (wk_n (wk_n (wk_n (wk_n (wk_n (wk_n (wk_n (wk_n (wk_n (wk_n (wk_n (wk_n wk_0)))))))))))))))))))))))) (fun _ => (xg_st [some (aR K (List.map Cd.d (l_script : List Int))), some (pin pv_117 (aL [(aD K (Cd.d (v_340.2.1 : (List Int)))), (aD K (Cd.d (v_340.2.2.1 : Int))), (aD K (Cd.d (v_340.2.2.2.1 : Int))), (aD K (Cd.d (v_340.2.2.2.2 : Int)))])), some (pin pv_119 (o_Meter K cL v_474.2)), some (pin pv_121 (o_Biller K cL s_133.2.2.1)), some (pin pv_122 (aTD K (tD (s_133.2.2.2.1 : (List ((Int × Int) × Int)))))), some (pin pv_123 (aLD K (List.map Cd.d (s_133.2.2.2.2.1 : List (Int × (Tu (T3 Int Int Int))))))), some (pin pv_124 (aLD K (List.map Cd.d (s_133.2.2.2.2.2.1 : List Int)))), some (aD K (Cd.d (s_133.2.2.2.2.2.2.1 : Int))), some (aD K (Cd.d (s_133.2.2.2.2.2.2.2.1 : Int))), some (aD K (Cd.d (s_133.2.2.2.2.2.2.2.2.1 : Bool))), some (pin pv_125 (aTD K (tD (s_133.2.2.2.2.2.2.2.2.2 : (List ((Int × Int) × Int)))))), some (aD K (Cd.d (l_turn_134 : Int))), some (aD K (Cd.d (v_340.1 : Int))), none, none, none, none, none, some (aD K (Cd.d (v_474.1 : (Int × (Tu (T3 Int Int Int)))))), none] rfl (xg_bind fun g_480 hg_480 =>
  (xg_expr (xe_appendDW (cv := Cd.d) (xs := s_133.2.2.2.2.1) (x := v_474.1) (xe_nmV 5 rfl) (Own.slot 5 rfl) (xe_nm 18 rfl) (Own.slot 5 rfl) (sz_lt (guardO_eq hg_480))) (xg_st [some (aR K (List.map Cd.d (l_script : List Int))), some (pin pv_117 (aL [(aD K (Cd.d (v_340.2.1 : (List Int)))), (aD K (Cd.d (v_340.2.2.1 : Int))), (aD K (Cd.d (v_340.2.2.2.1 : Int))), (aD K (Cd.d (v_340.2.2.2.2 : Int)))])), some (pin pv_119 (o_Meter K cL v_474.2)), some (pin pv_121 (o_Biller K cL s_133.2.2.1)), some (pin pv_122 (aTD K (tD (s_133.2.2.2.1 : (List ((Int × Int) × Int)))))), some (pin pv_123 (aLD K (List.map Cd.d ((s_133.2.2.2.2.1 ++ [v_474.1]) : List (Int × (Tu (T3 Int Int Int))))))), some (pin pv_124 (aLD K (List.map Cd.d (s_133.2.2.2.2.2.1 : List Int)))), some (aD K (Cd.d (s_133.2.2.2.2.2.2.1 : Int))), some (aD K (Cd.d (s_133.2.2.2.2.2.2.2.1 : Int))), some (aD K (Cd.d (s_133.2.2.2.2.2.2.2.2.1 : Bool))), some (pin pv_125 (aTD K (tD (s_133.2.2.2.2.2.2.2.2.2 : (List ((Int × Int) × Int)))))), some (aD K (Cd.d (l_turn_134 : Int))), some (aD K (Cd.d (v_340.1 : Int))), none, none, none, none, none, some (aD K (Cd.d (v_474.1 : (Int × (Tu (T3 Int Int Int)))))), none] rfl (xg_asg 9 (A := aD K (Cd.d (true : Bool))) xe_bl (xg_st [some (aR K (List.map Cd.d (l_script : List Int))), some (pin pv_117 (aL [(aD K (Cd.d (v_340.2.1 : (List Int)))), (aD K (Cd.d (v_340.2.2.1 : Int))), (aD K (Cd.d (v_340.2.2.2.1 : Int))), (aD K (Cd.d (v_340.2.2.2.2 : Int)))])), some (pin pv_119 (o_Meter K cL v_474.2)), some (pin pv_121 (o_Biller K cL s_133.2.2.1)), some (pin pv_122 (aTD K (tD (s_133.2.2.2.1 : (List ((Int × Int) × Int)))))), some (pin pv_123 (aLD K (List.map Cd.d ((s_133.2.2.2.2.1 ++ [v_474.1]) : List (Int × (Tu (T3 Int Int Int))))))), some (pin pv_124 (aLD K (List.map Cd.d (s_133.2.2.2.2.2.1 : List Int)))), some (aD K (Cd.d (s_133.2.2.2.2.2.2.1 : Int))), some (aD K (Cd.d (s_133.2.2.2.2.2.2.2.1 : Int))), some (aD K (Cd.d (true : Bool))), some (pin pv_125 (aTD K (tD (s_133.2.2.2.2.2.2.2.2.2 : (List ((Int × Int) × Int)))))), some (aD K (Cd.d (l_turn_134 : Int))), some (aD K (Cd.d (v_340.1 : Int))), none, none, none, none, none, some (aD K (Cd.d (v_474.1 : (Int × (Tu (T3 Int Int Int)))))), none] rfl (xg_nilB (wk_k (wk_k (wk_k (wk_k (wk_k (wk_k (wk_k (wk_k (wk_k (wk_k (wk_k (wk_k (wk_k (wk_n (wk_n (wk_n (wk_n (wk_n (wk_n (wk_n wk_0))))))))))))))))))))))))))))))))))) (fun _ => (xg_st [some (aR K (List.map Cd.d (l_script : List Int))), some (pin pv_117 (aL [(aD K (Cd.d (v_340.2.1 : (List Int)))), (aD K (Cd.d (v_340.2.2.1 : Int))), (aD K (Cd.d (v_340.2.2.2.1 : Int))), (aD K (Cd.d (v_340.2.2.2.2 : Int)))])), some (pin pv_119 (o_Meter K cL s_133.2.1)), some (pin pv_121 (o_Biller K cL s_133.2.2.1)), some (pin pv_122 (aTD K (tD (s_133.2.2.2.1 : (List ((Int × Int) × Int)))))), some (pin pv_123 (aLD K (List.map Cd.d (s_133.2.2.2.2.1 : List (Int × (Tu (T3 Int Int Int))))))), some (pin pv_124 (aLD K (List.map Cd.d (s_133.2.2.2.2.2.1 : List Int)))), some (aD K (Cd.d (s_133.2.2.2.2.2.2.1 : Int))), some (aD K (Cd.d (s_133.2.2.2.2.2.2.2.1 : Int))), some (aD K (Cd.d (s_133.2.2.2.2.2.2.2.2.1 : Bool))), some (pin pv_125 (aTD K (tD (s_133.2.2.2.2.2.2.2.2.2 : (List ((Int × Int) × Int)))))), some (aD K (Cd.d (l_turn_134 : Int))), some (aD K (Cd.d (v_340.1 : Int))), none, none, none, none, none, none, none] rfl (xg_ifBB (N := (fun s_496 : (((List Int) × Int × Int × Int) × M_Meter × M_Biller × (List Int) × Int × Int) => [some (aR K (List.map Cd.d (l_script : List Int))), some (pin pv_117 (aL [(aD K (Cd.d (s_496.1.1 : (List Int)))), (aD K (Cd.d (s_496.1.2.1 : Int))), (aD K (Cd.d (s_496.1.2.2.1 : Int))), (aD K (Cd.d (s_496.1.2.2.2 : Int)))])), some (pin pv_119 (o_Meter K cL s_496.2.1)), some (pin pv_121 (o_Biller K cL s_496.2.2.1)), some (pin pv_122 (aTD K (tD (s_133.2.2.2.1 : (List ((Int × Int) × Int)))))), some (pin pv_123 (aLD K (List.map Cd.d (s_133.2.2.2.2.1 : List (Int × (Tu (T3 Int Int Int))))))), some (pin pv_124 (aLD K (List.map Cd.d (s_496.2.2.2.1 : List Int)))), some (aD K (Cd.d (s_496.2.2.2.2.1 : Int))), some (aD K (Cd.d (s_496.2.2.2.2.2 : Int))), some (aD K (Cd.d (s_133.2.2.2.2.2.2.2.2.1 : Bool))), some (pin pv_125 (aTD K (tD (s_133.2.2.2.2.2.2.2.2.2 : (List ((Int × Int) × Int)))))), some (aD K (Cd.d (l_turn_134 : Int))), some (aD K (Cd.d (v_340.1 : Int))), none, none, none, none, none, none, none])) (xt_w (xw_and (xt_k (xk_lt (xe_nm 12 rfl) xe_int)) fun _ => (xw_and1 (xt_k (xkc_ne (x := (s_133.2.2.2.2.1 : (List (Int × (Tu (T3 Int Int Int)))))) (y := ([] : (List (Int × (Tu (T3 Int Int Int)))))) hr.units (xe_nmV 5 rfl) (xe_lst xa_nil (Nat.le_of_ble_eq_true rfl)) (Rls.da (Rlm.ls (rmW (Own.slot 5 rfl)))) (Rls.da (Rlm.ls (rmL (ds := []))))))))) (fun _ => (xg_st [some (aR K (List.map Cd.d (l_script : List Int))), some (pin pv_117 (aL [(aD K (Cd.d (v_340.2.1 : (List Int)))), (aD K (Cd.d (v_340.2.2.1 : Int))), (aD K (Cd.d (v_340.2.2.2.1 : Int))), (aD K (Cd.d (v_340.2.2.2.2 : Int)))])), some (pin pv_119 (o_Meter K cL s_133.2.1)), some (pin pv_121 (o_Biller K cL s_133.2.2.1)), some (pin pv_122 (aTD K (tD (s_133.2.2.2.1 : (List ((Int × Int) × Int)))))), some (pin pv_123 (aLD K (List.map Cd.d (s_133.2.2.2.2.1 : List (Int × (Tu (T3 Int Int Int))))))), some (pin pv_124 (aLD K (List.map Cd.d (s_133.2.2.2.2.2.1 : List Int)))), some (aD K (Cd.d (s_133.2.2.2.2.2.2.1 : Int))), some (aD K (Cd.d (s_133.2.2.2.2.2.2.2.1 : Int))), some (aD K (Cd.d (s_133.2.2.2.2.2.2.2.2.1 : Bool))), some (pin pv_125 (aTD K (tD (s_133.2.2.2.2.2.2.2.2.2 : (List ((Int × Int) × Int)))))), some (aD K (Cd.d (l_turn_134 : Int))), some (aD K (Cd.d (v_340.1 : Int))), none, none, none, none, none, none, none] rfl (xg_bind fun v_497 hv_497 =>
  (xg_bind fun v_498 hv_498 =>
  (xg_bind fun x_499 hx_499 =>
  (xg_asg 18 (A := aD K (Cd.d (x_499 : (Int × (Tu (T3 Int Int Int)))))) (xc_ix (xs := s_133.2.2.2.2.1) (xe_nmV 5 rfl) (xe_sub (xe_neg xe_int) (xe_callX (xx := (v_497.2, (min ((List.length s_133.2.2.2.2.1 : Nat) : Int) (1 + v_497.1)))) c_l_next (hr.mono (by decide)) hv_498 (xx_lend 0 (xx_of (xa_cons (xe_nmV 1 rfl) (xa_cons (xe_min2 rfl (xc_len (xs := s_133.2.2.2.2.1) (xe_nmV 5 rfl) (Rlm.ls (rmW (Own.slot 5 rfl))) m_len) (xe_add xe_int (xe_callX (xx := (v_340.2, 4)) c_l_next (hr.mono (by decide)) hv_497 (xx_lend 0 (xx_of (xa_cons (xe_nmV 1 rfl) (xa_cons xe_int xa_nil))) rfl (Own.slot 1 rfl)) rfl rfl (Fill.cons 0 (List.Mem.head _) rfl (Own.slot 1 rfl) Fill.nil))) m_min) xa_nil))) rfl (Own.slot 1 rfl)) rfl rfl (Fill.cons 0 (List.Mem.head _) rfl (Own.slot 1 rfl) Fill.nil))) (Rlm.ls (rmW (Own.slot 5 rfl))) hx_499) (xg_st [some (aR K (List.map Cd.d (l_script : List Int))), some (pin pv_117 (aL [(aD K (Cd.d (v_498.2.1 : (List Int)))), (aD K (Cd.d (v_498.2.2.1 : Int))), (aD K (Cd.d (v_498.2.2.2.1 : Int))), (aD K (Cd.d (v_498.2.2.2.2 : Int)))])), some (pin pv_119 (o_Meter K cL s_133.2.1)), some (pin pv_121 (o_Biller K cL s_133.2.2.1)), some (pin pv_122 (aTD K (tD (s_133.2.2.2.1 : (List ((Int × Int) × Int)))))), some (pin pv_123 (aLD K (List.map Cd.d (s_133.2.2.2.2.1 : List (Int × (Tu (T3 Int Int Int))))))), some (pin pv_124 (aLD K (List.map Cd.d (s_133.2.2.2.2.2.1 : List Int)))), some (aD K (Cd.d (s_133.2.2.2.2.2.2.1 : Int))), some (aD K (Cd.d (s_133.2.2.2.2.2.2.2.1 : Int))), some (aD K (Cd.d (s_133.2.2.2.2.2.2.2.2.1 : Bool))), some (pin pv_125 (aTD K (tD (s_133.2.2.2.2.2.2.2.2.2 : (List ((Int × Int) × Int)))))), some (aD K (Cd.d (l_turn_134 : Int))), some (aD K (Cd.d (v_340.1 : Int))), none, none, none, none, none, some (aD K (Cd.d (x_499 : (Int × (Tu (T3 Int Int Int)))))), none] rfl (xg_lett fun l_newest_500 hl_newest_500 =>
  (xg_asg 7 (A := aD K (Cd.d (l_newest_500 : Int))) (xe_nv (v := ((max s_133.2.2.2.2.2.2.1 x_499.1) : Int)) (xe_max2 rfl (xe_nm 7 rfl) (xe_ixT (xe_nm 18 rfl) xe_int rtD rfl) m_max) hl_newest_500) (xg_st [some (aR K (List.map Cd.d (l_script : List Int))), some (pin pv_117 (aL [(aD K (Cd.d (v_498.2.1 : (List Int)))), (aD K (Cd.d (v_498.2.2.1 : Int))), (aD K (Cd.d (v_498.2.2.2.1 : Int))), (aD K (Cd.d (v_498.2.2.2.2 : Int)))])), some (pin pv_119 (o_Meter K cL s_133.2.1)), some (pin pv_121 (o_Biller K cL s_133.2.2.1)), some (pin pv_122 (aTD K (tD (s_133.2.2.2.1 : (List ((Int × Int) × Int)))))), some (pin pv_123 (aLD K (List.map Cd.d (s_133.2.2.2.2.1 : List (Int × (Tu (T3 Int Int Int))))))), some (pin pv_124 (aLD K (List.map Cd.d (s_133.2.2.2.2.2.1 : List Int)))), some (aD K (Cd.d (l_newest_500 : Int))), some (aD K (Cd.d (s_133.2.2.2.2.2.2.2.1 : Int))), some (aD K (Cd.d (s_133.2.2.2.2.2.2.2.2.1 : Bool))), some (pin pv_125 (aTD K (tD (s_133.2.2.2.2.2.2.2.2.2 : (List ((Int × Int) × Int)))))), some (aD K (Cd.d (l_turn_134 : Int))), some (aD K (Cd.d (v_340.1 : Int))), none, none, none, none, none, some (aD K (Cd.d (x_499 : (Int × (Tu (T3 Int Int Int)))))), none] rfl (xg_bind fun v_501 hv_501 =>
  (xg_asg 19 (A := aD K (Cd.d (v_501.1 : Int))) (xe_methX (xx := (s_133.2.2.1, x_499)) c_Biller_take HX.T_Biller.cl nm_Biller_take (hr.mono (by decide)) hv_501 (xe_nmV 3 rfl) (Own.slot 3 rfl) (xx_of (xa_cons (xe_nm 18 rfl) xa_nil)) (Own.slot 3 rfl) rfl rfl rfl rfl (Fill.cons 0 (List.Mem.head _) rfl (Own.slot 3 rfl) Fill.nil)) (xg_st [some (aR K (List.map Cd.d (l_script : List Int))), some (pin pv_117 (aL [(aD K (Cd.d (v_498.2.1 : (List Int)))), (aD K (Cd.d (v_498.2.2.1 : Int))), (aD K (Cd.d (v_498.2.2.2.1 : Int))), (aD K (Cd.d (v_498.2.2.2.2 : Int)))])), some (pin pv_119 (o_Meter K cL s_133.2.1)), some (pin pv_121 (o_Biller K cL v_501.2)), some (pin pv_122 (aTD K (tD (s_133.2.2.2.1 : (List ((Int × Int) × Int)))))), some (pin pv_123 (aLD K (List.map Cd.d (s_133.2.2.2.2.1 : List (Int × (Tu (T3 Int Int Int))))))), some (pin pv_124 (aLD K (List.map Cd.d (s_133.2.2.2.2.2.1 : List Int)))), some (aD K (Cd.d (l_newest_500 : Int))), some (aD K (Cd.d (s_133.2.2.2.2.2.2.2.1 : Int))), some (aD K (Cd.d (s_133.2.2.2.2.2.2.2.2.1 : Bool))), some (pin pv_125 (aTD K (tD (s_133.2.2.2.2.2.2.2.2.2 : (List ((Int × Int) × Int)))))), some (aD K (Cd.d (l_turn_134 : Int))), some (aD K (Cd.d (v_340.1 : Int))), none, none, none, none, none, some (aD K (Cd.d (x_499 : (Int × (Tu (T3 Int Int Int)))))), some (aD K (Cd.d (v_501.1 : Int)))] rfl (xg_ifRB (u := []) (xt_w (xw_or (xt_k (xkc_ne (x := (v_501.1 : Int)) (y := (l_newest_500 : Int)) hr.units (xe_nm 19 rfl) (xe_nm 7 rfl) rdD rdD)) fun _ => (xw_or1 (xt_v (xe_isi (T := "int") (xe_nm 19 rfl) (xe_ty (ty := "bool") m_bool (by decide +kernel)) rty_data (by decide +kernel) m_isinstance))))) (fun _ => (xg_st [some (aR K (List.map Cd.d (l_script : List Int))), some (pin pv_117 (aL [(aD K (Cd.d (v_498.2.1 : (List Int)))), (aD K (Cd.d (v_498.2.2.1 : Int))), (aD K (Cd.d (v_498.2.2.2.1 : Int))), (aD K (Cd.d (v_498.2.2.2.2 : Int)))])), some (pin pv_119 (o_Meter K cL s_133.2.1)), some (pin pv_121 (o_Biller K cL v_501.2)), some (pin pv_122 (aTD K (tD (s_133.2.2.2.1 : (List ((Int × Int) × Int)))))), some (pin pv_123 (aLD K (List.map Cd.d (s_133.2.2.2.2.1 : List (Int × (Tu (T3 Int Int Int))))))), some (pin pv_124 (aLD K (List.map Cd.d (s_133.2.2.2.2.2.1 : List Int)))), some (aD K (Cd.d (l_newest_500 : Int))), some (aD K (Cd.d (s_133.2.2.2.2.2.2.2.1 : Int))), some (aD K (Cd.d (s_133.2.2.2.2.2.2.2.2.1 : Bool))), some (pin pv_125 (aTD K (tD (s_133.2.2.2.2.2.2.2.2.2 : (List ((Int × Int) × Int)))))), some (aD K (Cd.d (l_turn_134 : Int))), some (aD K (Cd.d (v_340.1 : Int))), none, none, none, none, none, some (aD K (Cd.d (x_499 : (Int × (Tu (T3 Int Int Int)))))), some (aD K (Cd.d (v_501.1 : Int)))] rfl (xg_ret (A := (aD K (Cd.d (false : Bool)))) xe_bl (wk_k (wk_n (wk_n (wk_n (wk_n (wk_n (wk_n (wk_n (wk_n (wk_n (wk_n (wk_n (wk_n (wk_n (wk_n (wk_n (wk_n (wk_n (wk_n (wk_n (wk_n wk_0)))))))))))))))))))))))) (fun _ => (xg_st [some (aR K (List.map Cd.d (l_script : List Int))), some (pin pv_117 (aL [(aD K (Cd.d (v_498.2.1 : (List Int)))), (aD K (Cd.d (v_498.2.2.1 : Int))), (aD K (Cd.d (v_498.2.2.2.1 : Int))), (aD K (Cd.d (v_498.2.2.2.2 : Int)))])), some (pin pv_119 (o_Meter K cL s_133.2.1)), some (pin pv_121 (o_Biller K cL v_501.2)), some (pin pv_122 (aTD K (tD (s_133.2.2.2.1 : (List ((Int × Int) × Int)))))), some (pin pv_123 (aLD K (List.map Cd.d (s_133.2.2.2.2.1 : List (Int × (Tu (T3 Int Int Int))))))), some (pin pv_124 (aLD K (List.map Cd.d (s_133.2.2.2.2.2.1 : List Int)))), some (aD K (Cd.d (l_newest_500 : Int))), some (aD K (Cd.d (s_133.2.2.2.2.2.2.2.1 : Int))), some (aD K (Cd.d (s_133.2.2.2.2.2.2.2.2.1 : Bool))), some (pin pv_125 (aTD K (tD (s_133.2.2.2.2.2.2.2.2.2 : (List ((Int × Int) × Int)))))), some (aD K (Cd.d (l_turn_134 : Int))), some (aD K (Cd.d (v_340.1 : Int))), none, none, none, none, none, some (aD K (Cd.d (x_499 : (Int × (Tu (T3 Int Int Int)))))), some (aD K (Cd.d (v_501.1 : Int)))] rfl (xg_bind fun g_502 hg_502 =>
  (xg_expr (xe_appendDW (cv := Cd.d) (xs := s_133.2.2.2.2.2.1) (x := v_501.1) (xe_nmV 6 rfl) (Own.slot 6 rfl) (xe_nm 19 rfl) (Own.slot 6 rfl) (sz_lt (guardO_eq hg_502))) (xg_st [some (aR K (List.map Cd.d (l_script : List Int))), some (pin pv_117 (aL [(aD K (Cd.d (v_498.2.1 : (List Int)))), (aD K (Cd.d (v_498.2.2.1 : Int))), (aD K (Cd.d (v_498.2.2.2.1 : Int))), (aD K (Cd.d (v_498.2.2.2.2 : Int)))])), some (pin pv_119 (o_Meter K cL s_133.2.1)), some (pin pv_121 (o_Biller K cL v_501.2)), some (pin pv_122 (aTD K (tD (s_133.2.2.2.1 : (List ((Int × Int) × Int)))))), some (pin pv_123 (aLD K (List.map Cd.d (s_133.2.2.2.2.1 : List (Int × (Tu (T3 Int Int Int))))))), some (pin pv_124 (aLD K (List.map Cd.d ((s_133.2.2.2.2.2.1 ++ [v_501.1]) : List Int)))), some (aD K (Cd.d (l_newest_500 : Int))), some (aD K (Cd.d (s_133.2.2.2.2.2.2.2.1 : Int))), some (aD K (Cd.d (s_133.2.2.2.2.2.2.2.2.1 : Bool))), some (pin pv_125 (aTD K (tD (s_133.2.2.2.2.2.2.2.2.2 : (List ((Int × Int) × Int)))))), some (aD K (Cd.d (l_turn_134 : Int))), some (aD K (Cd.d (v_340.1 : Int))), none, none, none, none, none, some (aD K (Cd.d (x_499 : (Int × (Tu (T3 Int Int Int)))))), some (aD K (Cd.d (v_501.1 : Int)))] rfl (xg_nilB (wk_k (wk_k (wk_k (wk_k (wk_k (wk_k (wk_k (wk_k (wk_k (wk_k (wk_k (wk_k (wk_k (wk_n (wk_n (wk_n (wk_n (wk_n (wk_n (wk_n wk_0)))))))))))))))))))))))))))))))))))))))) (fun _ => (xg_st [some (aR K (List.map Cd.d (l_script : List Int))), some (pin pv_117 (aL [(aD K (Cd.d (v_340.2.1 : (List Int)))), (aD K (Cd.d (v_340.2.2.1 : Int))), (aD K (Cd.d (v_340.2.2.2.1 : Int))), (aD K (Cd.d (v_340.2.2.2.2 : Int)))])), some (pin pv_119 (o_Meter K cL s_133.2.1)), some (pin pv_121 (o_Biller K cL s_133.2.2.1)), some (pin pv_122 (aTD K (tD (s_133.2.2.2.1 : (List ((Int × Int) × Int)))))), some (pin pv_123 (aLD K (List.map Cd.d (s_133.2.2.2.2.1 : List (Int × (Tu (T3 Int Int Int))))))), some (pin pv_124 (aLD K (List.map Cd.d (s_133.2.2.2.2.2.1 : List Int)))), some (aD K (Cd.d (s_133.2.2.2.2.2.2.1 : Int))), some (aD K (Cd.d (s_133.2.2.2.2.2.2.2.1 : Int))), some (aD K (Cd.d (s_133.2.2.2.2.2.2.2.2.1 : Bool))), some (pin pv_125 (aTD K (tD (s_133.2.2.2.2.2.2.2.2.2 : (List ((Int × Int) × Int)))))), some (aD K (Cd.d (l_turn_134 : Int))), some (aD K (Cd.d (v_340.1 : Int))), none, none, none, none, none, none, none] rfl (xg_if (N := (fun s_507 : (((List Int) × Int × Int × Int) × M_Meter × Int) => [some (aR K (List.map Cd.d (l_script : List Int))), some (pin pv_117 (aL [(aD K (Cd.d (s_507.1.1 : (List Int)))), (aD K (Cd.d (s_507.1.2.1 : Int))), (aD K (Cd.d (s_507.1.2.2.1 : Int))), (aD K (Cd.d (s_507.1.2.2.2 : Int)))])), some (pin pv_119 (o_Meter K cL s_507.2.1)), some (pin pv_121 (o_Biller K cL s_133.2.2.1)), some (pin pv_122 (aTD K (tD (s_133.2.2.2.1 : (List ((Int × Int) × Int)))))), some (pin pv_123 (aLD K (List.map Cd.d (s_133.2.2.2.2.1 : List (Int × (Tu (T3 Int Int Int))))))), some (pin pv_124 (aLD K (List.map Cd.d (s_133.2.2.2.2.2.1 : List Int)))), some (aD K (Cd.d (s_133.2.2.2.2.2.2.1 : Int))), some (aD K (Cd.d (s_507.2.2 : Int))), some (aD K (Cd.d (s_133.2.2.2.2.2.2.2.2.1 : Bool))), some (pin pv_125 (aTD K (tD (s_133.2.2.2.2.2.2.2.2.2 : (List ((Int × Int) × Int)))))), some (aD K (Cd.d (l_turn_134 : Int))), some (aD K (Cd.d (v_340.1 : Int))), none, none, none, none, none, none, none])) (xt_w (xw_and (xt_k (xkc_eq (x := (v_340.1 : Int)) (y := (5 : Int)) hr.units (xe_nm 12 rfl) xe_int rdD rdD)) fun _ => (xw_and1 (xt_k (xkc_ne (x := (s_133.2.2.2.2.2.1 : (List Int))) (y := ([] : (List Int))) hr.units (xe_nmV 6 rfl) (xe_lst xa_nil (Nat.le_of_ble_eq_true rfl)) (Rls.da (Rlm.ls (rmW (Own.slot 6 rfl)))) (Rls.da (Rlm.ls (rmL (ds := []))))))))) (fun _ => (xg_st [some (aR K (List.map Cd.d (l_script : List Int))), some (pin pv_117 (aL [(aD K (Cd.d (v_340.2.1 : (List Int)))), (aD K (Cd.d (v_340.2.2.1 : Int))), (aD K (Cd.d (v_340.2.2.2.1 : Int))), (aD K (Cd.d (v_340.2.2.2.2 : Int)))])), some (pin pv_119 (o_Meter K cL s_133.2.1)), some (pin pv_121 (o_Biller K cL s_133.2.2.1)), some (pin pv_122 (aTD K (tD (s_133.2.2.2.1 : (List ((Int × Int) × Int)))))), some (pin pv_123 (aLD K (List.map Cd.d (s_133.2.2.2.2.1 : List (Int × (Tu (T3 Int Int Int))))))), some (pin pv_124 (aLD K (List.map Cd.d (s_133.2.2.2.2.2.1 : List Int)))), some (aD K (Cd.d (s_133.2.2.2.2.2.2.1 : Int))), some (aD K (Cd.d (s_133.2.2.2.2.2.2.2.1 : Int))), some (aD K (Cd.d (s_133.2.2.2.2.2.2.2.2.1 : Bool))), some (pin pv_125 (aTD K (tD (s_133.2.2.2.2.2.2.2.2.2 : (List ((Int × Int) × Int)))))), some (aD K (Cd.d (l_turn_134 : Int))), some (aD K (Cd.d (v_340.1 : Int))), none, none, none, none, none, none, none] rfl (xg_bind fun v_508 hv_508 =>
  (xg_bind fun x_509 hx_509 =>
  (xg_asg 19 (A := aD K (Cd.d (x_509 : Int))) (xc_ix (xs := s_133.2.2.2.2.2.1) (xe_nmV 6 rfl) (xe_callX (xx := (v_340.2, ((List.length s_133.2.2.2.2.2.1 : Nat) : Int))) c_l_next (hr.mono (by decide)) hv_508 (xx_lend 0 (xx_of (xa_cons (xe_nmV 1 rfl) (xa_cons (xc_len (xs := s_133.2.2.2.2.2.1) (xe_nmV 6 rfl) (Rlm.ls (rmW (Own.slot 6 rfl))) m_len) xa_nil))) rfl (Own.slot 1 rfl)) rfl rfl (Fill.cons 0 (List.Mem.head _) rfl (Own.slot 1 rfl) Fill.nil)) (Rlm.ls (rmW (Own.slot 6 rfl))) hx_509) (xg_st [some (aR K (List.map Cd.d (l_script : List Int))), some (pin pv_117 (aL [(aD K (Cd.d (v_508.2.1 : (List Int)))), (aD K (Cd.d (v_508.2.2.1 : Int))), (aD K (Cd.d (v_508.2.2.2.1 : Int))), (aD K (Cd.d (v_508.2.2.2.2 : Int)))])), some (pin pv_119 (o_Meter K cL s_133.2.1)), some (pin pv_121 (o_Biller K cL s_133.2.2.1)), some (pin pv_122 (aTD K (tD (s_133.2.2.2.1 : (List ((Int × Int) × Int)))))), some (pin pv_123 (aLD K (List.map Cd.d (s_133.2.2.2.2.1 : List (Int × (Tu (T3 Int Int Int))))))), some (pin pv_124 (aLD K (List.map Cd.d (s_133.2.2.2.2.2.1 : List Int)))), some (aD K (Cd.d (s_133.2.2.2.2.2.2.1 : Int))), some (aD K (Cd.d (s_133.2.2.2.2.2.2.2.1 : Int))), some (aD K (Cd.d (s_133.2.2.2.2.2.2.2.2.1 : Bool))), some (pin pv_125 (aTD K (tD (s_133.2.2.2.2.2.2.2.2.2 : (List ((Int × Int) × Int)))))), some (aD K (Cd.d (l_turn_134 : Int))), some (aD K (Cd.d (v_340.1 : Int))), none, none, none, none, none, none, some (aD K (Cd.d (x_509 : Int)))] rfl (xg_lett fun l_known_510 hl_known_510 =>
  (xg_asg 8 (A := aD K (Cd.d (l_known_510 : Int))) (xe_nv (v := ((max s_133.2.2.2.2.2.2.2.1 x_509) : Int)) (xe_max2 rfl (xe_nm 8 rfl) (xe_nm 19 rfl) m_max) hl_known_510) (xg_st [some (aR K (List.map Cd.d (l_script : List Int))), some (pin pv_117 (aL [(aD K (Cd.d (v_508.2.1 : (List Int)))), (aD K (Cd.d (v_508.2.2.1 : Int))), (aD K (Cd.d (v_508.2.2.2.1 : Int))), (aD K (Cd.d (v_508.2.2.2.2 : Int)))])), some (pin pv_119 (o_Meter K cL s_133.2.1)), some (pin pv_121 (o_Biller K cL s_133.2.2.1)), some (pin pv_122 (aTD K (tD (s_133.2.2.2.1 : (List ((Int × Int) × Int)))))), some (pin pv_123 (aLD K (List.map Cd.d (s_133.2.2.2.2.1 : List (Int × (Tu (T3 Int Int Int))))))), some (pin pv_124 (aLD K (List.map Cd.d (s_133.2.2.2.2.2.1 : List Int)))), some (aD K (Cd.d (s_133.2.2.2.2.2.2.1 : Int))), some (aD K (Cd.d (l_known_510 : Int))), some (aD K (Cd.d (s_133.2.2.2.2.2.2.2.2.1 : Bool))), some (pin pv_125 (aTD K (tD (s_133.2.2.2.2.2.2.2.2.2 : (List ((Int × Int) × Int)))))), some (aD K (Cd.d (l_turn_134 : Int))), some (aD K (Cd.d (v_340.1 : Int))), none, none, none, none, none, none, some (aD K (Cd.d (x_509 : Int)))] rfl (xg_bind fun v_511 hv_511 =>
  (xg_expr (xe_methX (xx := (s_133.2.1, x_509)) c_Meter_take HX.T_Meter.cl nm_Meter_take (hr.mono (by decide)) hv_511 (xe_nmV 2 rfl) (Own.slot 2 rfl) (xx_of (xa_cons (xe_nm 19 rfl) xa_nil)) (Own.slot 2 rfl) rfl rfl rfl rfl (Fill.cons 0 (List.Mem.head _) rfl (Own.slot 2 rfl) Fill.nil)) (xg_st [some (aR K (List.map Cd.d (l_script : List Int))), some (pin pv_117 (aL [(aD K (Cd.d (v_508.2.1 : (List Int)))), (aD K (Cd.d (v_508.2.2.1 : Int))), (aD K (Cd.d (v_508.2.2.2.1 : Int))), (aD K (Cd.d (v_508.2.2.2.2 : Int)))])), some (pin pv_119 (o_Meter K cL v_511)), some (pin pv_121 (o_Biller K cL s_133.2.2.1)), some (pin pv_122 (aTD K (tD (s_133.2.2.2.1 : (List ((Int × Int) × Int)))))), some (pin pv_123 (aLD K (List.map Cd.d (s_133.2.2.2.2.1 : List (Int × (Tu (T3 Int Int Int))))))), some (pin pv_124 (aLD K (List.map Cd.d (s_133.2.2.2.2.2.1 : List Int)))), some (aD K (Cd.d (s_133.2.2.2.2.2.2.1 : Int))), some (aD K (Cd.d (l_known_510 : Int))), some (aD K (Cd.d (s_133.2.2.2.2.2.2.2.2.1 : Bool))), some (pin pv_125 (aTD K (tD (s_133.2.2.2.2.2.2.2.2.2 : (List ((Int × Int) × Int)))))), some (aD K (Cd.d (l_turn_134 : Int))), some (aD K (Cd.d (v_340.1 : Int))), none, none, none, none, none, none, some (aD K (Cd.d (x_509 : Int)))] rfl (xg_nilS (wk_k (wk_k (wk_k (wk_k (wk_k (wk_k (wk_k (wk_k (wk_k (wk_k (wk_k (wk_k (wk_k (wk_n (wk_n (wk_n (wk_n (wk_n (wk_n (wk_n wk_0))))))))))))))))))))))))))))))))) (fun _ => (xg_st [some (aR K (List.map Cd.d (l_script : List Int))), some (pin pv_117 (aL [(aD K (Cd.d (v_340.2.1 : (List Int)))), (aD K (Cd.d (v_340.2.2.1 : Int))), (aD K (Cd.d (v_340.2.2.2.1 : Int))), (aD K (Cd.d (v_340.2.2.2.2 : Int)))])), some (pin pv_119 (o_Meter K cL s_133.2.1)), some (pin pv_121 (o_Biller K cL s_133.2.2.1)), some (pin pv_122 (aTD K (tD (s_133.2.2.2.1 : (List ((Int × Int) × Int)))))), some (pin pv_123 (aLD K (List.map Cd.d (s_133.2.2.2.2.1 : List (Int × (Tu (T3 Int Int Int))))))), some (pin pv_124 (aLD K (List.map Cd.d (s_133.2.2.2.2.2.1 : List Int)))), some (aD K (Cd.d (s_133.2.2.2.2.2.2.1 : Int))), some (aD K (Cd.d (s_133.2.2.2.2.2.2.2.1 : Int))), some (aD K (Cd.d (s_133.2.2.2.2.2.2.2.2.1 : Bool))), some (pin pv_125 (aTD K (tD (s_133.2.2.2.2.2.2.2.2.2 : (List ((Int × Int) × Int)))))), some (aD K (Cd.d (l_turn_134 : Int))), some (aD K (Cd.d (v_340.1 : Int))), none, none, none, none, none, none, none] rfl (xg_nilS (wk_k (wk_k (wk_k (wk_k (wk_k (wk_k (wk_k (wk_k (wk_k (wk_k (wk_k (wk_k (wk_k (wk_n (wk_n (wk_n (wk_n (wk_n (wk_n (wk_n wk_0))))))))))))))))))))))) (fun s_507 => (xg_st [some (aR K (List.map Cd.d (l_script : List Int))), some (pin pv_117 (aL [(aD K (Cd.d (s_507.1.1 : (List Int)))), (aD K (Cd.d (s_507.1.2.1 : Int))), (aD K (Cd.d (s_507.1.2.2.1 : Int))), (aD K (Cd.d (s_507.1.2.2.2 : Int)))])), some (pin pv_119 (o_Meter K cL s_507.2.1)), some (pin pv_121 (o_Biller K cL s_133.2.2.1)), some (pin pv_122 (aTD K (tD (s_133.2.2.2.1 : (List ((Int × Int) × Int)))))), some (pin pv_123 (aLD K (List.map Cd.d (s_133.2.2.2.2.1 : List (Int × (Tu (T3 Int Int Int))))))), some (pin pv_124 (aLD K (List.map Cd.d (s_133.2.2.2.2.2.1 : List Int)))), some (aD K (Cd.d (s_133.2.2.2.2.2.2.1 : Int))), some (aD K (Cd.d (s_507.2.2 : Int))), some (aD K (Cd.d (s_133.2.2.2.2.2.2.2.2.1 : Bool))), some (pin pv_125 (aTD K (tD (s_133.2.2.2.2.2.2.2.2.2 : (List ((Int × Int) × Int)))))), some (aD K (Cd.d (l_turn_134 : Int))), some (aD K (Cd.d (v_340.1 : Int))), none, none, none, none, none, none, none] rfl (xg_nilB (wk_k (wk_k (wk_k (wk_k (wk_k (wk_k (wk_k (wk_k (wk_k (wk_k (wk_k (wk_k (wk_k (wk_n (wk_n (wk_n (wk_n (wk_n (wk_n (wk_n wk_0)))))))))))))))))))))))))) (fun s_496 => (xg_st [some (aR K (List.map Cd.d (l_script : List Int))), some (pin pv_117 (aL [(aD K (Cd.d (s_496.1.1 : (List Int)))), (aD K (Cd.d (s_496.1.2.1 : Int))), (aD K (Cd.d (s_496.1.2.2.1 : Int))), (aD K (Cd.d (s_496.1.2.2.2 : Int)))])), some (pin pv_119 (o_Meter K cL s_496.2.1)), some (pin pv_121 (o_Biller K cL s_496.2.2.1)), some (pin pv_122 (aTD K (tD (s_133.2.2.2.1 : (List ((Int × Int) × Int)))))), some (pin pv_123 (aLD K (List.map Cd.d (s_133.2.2.2.2.1 : List (Int × (Tu (T3 Int Int Int))))))), some (pin pv_124 (aLD K (List.map Cd.d (s_496.2.2.2.1 : List Int)))), some (aD K (Cd.d (s_496.2.2.2.2.1 : Int))), some (aD K (Cd.d (s_496.2.2.2.2.2 : Int))), some (aD K (Cd.d (s_133.2.2.2.2.2.2.2.2.1 : Bool))), some (pin pv_125 (aTD K (tD (s_133.2.2.2.2.2.2.2.2.2 : (List ((Int × Int) × Int)))))), some (aD K (Cd.d (l_turn_134 : Int))), some (aD K (Cd.d (v_340.1 : Int))), none, none, none, none, none, none, none] rfl (xg_nilB (wk_k (wk_k (wk_k (wk_k (wk_k (wk_k (wk_k (wk_k (wk_k (wk_k (wk_k (wk_k (wk_k (wk_n (wk_n (wk_n (wk_n (wk_n (wk_n (wk_n wk_0)))))))))))))))))))))))))) (fun s_473 => (xg_st [some (aR K (List.map Cd.d (l_script : List Int))), some (pin pv_117 (aL [(aD K (Cd.d (s_473.1.1 : (List Int)))), (aD K (Cd.d (s_473.1.2.1 : Int))), (aD K (Cd.d (s_473.1.2.2.1 : Int))), (aD K (Cd.d (s_473.1.2.2.2 : Int)))])), some (pin pv_119 (o_Meter K cL s_473.2.1)), some (pin pv_121 (o_Biller K cL s_473.2.2.1)), some (pin pv_122 (aTD K (tD (s_133.2.2.2.1 : (List ((Int × Int) × Int)))))), some (pin pv_123 (aLD K (List.map Cd.d (s_473.2.2.2.1 : List (Int × (Tu (T3 Int Int Int))))))), some (pin pv_124 (aLD K (List.map Cd.d (s_473.2.2.2.2.1 : List Int)))), some (aD K (Cd.d (s_473.2.2.2.2.2.1 : Int))), some (aD K (Cd.d (s_473.2.2.2.2.2.2.1 : Int))), some (aD K (Cd.d (s_473.2.2.2.2.2.2.2 : Bool))), some (pin pv_125 (aTD K (tD (s_133.2.2.2.2.2.2.2.2.2 : (List ((Int × Int) × Int)))))), some (aD K (Cd.d (l_turn_134 : Int))), some (aD K (Cd.d (v_340.1 : Int))), none, none, none, none, none, none, none] rfl (xg_nilB (wk_k (wk_k (wk_k (wk_k (wk_k (wk_k (wk_k (wk_k (wk_k (wk_k (wk_k (wk_k (wk_k (wk_n (wk_n (wk_n (wk_n (wk_n (wk_n (wk_n wk_0)))))))))))))))))))))))))) (fun s_426 => (xg_st [some (aR K (List.map Cd.d (l_script : List Int))), some (pin pv_117 (aL [(aD K (Cd.d (s_426.1.1 : (List Int)))), (aD K (Cd.d (s_426.1.2.1 : Int))), (aD K (Cd.d (s_426.1.2.2.1 : Int))), (aD K (Cd.d (s_426.1.2.2.2 : Int)))])), some (pin pv_119 (o_Meter K cL s_426.2.1)), some (pin pv_121 (o_Biller K cL s_426.2.2.1)), some (pin pv_122 (aTD K (tD (s_426.2.2.2.1 : (List ((Int × Int) × Int)))))), some (pin pv_123 (aLD K (List.map Cd.d (s_426.2.2.2.2.1 : List (Int × (Tu (T3 Int Int Int))))))), some (pin pv_124 (aLD K (List.map Cd.d (s_426.2.2.2.2.2.1 : List Int)))), some (aD K (Cd.d (s_426.2.2.2.2.2.2.1 : Int))), some (aD K (Cd.d (s_426.2.2.2.2.2.2.2.1 : Int))), some (aD K (Cd.d (s_426.2.2.2.2.2.2.2.2 : Bool))), some (pin pv_125 (aTD K (tD (s_133.2.2.2.2.2.2.2.2.2 : (List ((Int × Int) × Int)))))), some (aD K (Cd.d (l_turn_134 : Int))), some (aD K (Cd.d (v_340.1 : Int))), none, none, none, none, none, none, none] rfl (xg_bind fun v_512 hv_512 =>
  (xg_asg 13 (A := aD K (Cd.d (v_512 : Bool))) (xe_methX0 (xx := s_426.2.1) c_Meter_is_settled HX.T_Meter.cl nm_Meter_is_settled (hr.mono (by decide)) hv_512 (xe_nmV 2 rfl) (Own.slot 2 rfl) (Own.slot 2 rfl) rfl rfl rfl (Fill.cons 0 (List.Mem.head _) rfl (Own.slot 2 rfl) Fill.nil)) (xg_st [some (aR K (List.map Cd.d (l_script : List Int))), some (pin pv_117 (aL [(aD K (Cd.d (s_426.1.1 : (List Int)))), (aD K (Cd.d (s_426.1.2.1 : Int))), (aD K (Cd.d (s_426.1.2.2.1 : Int))), (aD K (Cd.d (s_426.1.2.2.2 : Int)))])), some (pin pv_119 (o_Meter K cL s_426.2.1)), some (pin pv_121 (o_Biller K cL s_426.2.2.1)), some (pin pv_122 (aTD K (tD (s_426.2.2.2.1 : (List ((Int × Int) × Int)))))), some (pin pv_123 (aLD K (List.map Cd.d (s_426.2.2.2.2.1 : List (Int × (Tu (T3 Int Int Int))))))), some (pin pv_124 (aLD K (List.map Cd.d (s_426.2.2.2.2.2.1 : List Int)))), some (aD K (Cd.d (s_426.2.2.2.2.2.2.1 : Int))), some (aD K (Cd.d (s_426.2.2.2.2.2.2.2.1 : Int))), some (aD K (Cd.d (s_426.2.2.2.2.2.2.2.2 : Bool))), some (pin pv_125 (aTD K (tD (s_133.2.2.2.2.2.2.2.2.2 : (List ((Int × Int) × Int)))))), some (aD K (Cd.d (l_turn_134 : Int))), some (aD K (Cd.d (v_340.1 : Int))), some (aD K (Cd.d (v_512 : Bool))), none, none, none, none, none, none] rfl (xg_ifRB (u := []) (xt_w (xw_or (xt_not (xt_v (xe_isi (T := "bool") (xe_nm 13 rfl) (xe_ty (ty := "bool") m_bool (by decide +kernel)) rty_data (by decide +kernel) m_isinstance))) fun _ => (xw_or1 (xt_k (xkc_ne (x := (v_512 : Bool)) (y := ((s_426.2.2.2.2.2.2.2.2 && (decide ((s_426.2.2.2.2.2.2.2.1 : Int) = ((List.length s_426.2.2.2.2.1 : Nat) : Int)))) : Bool)) hr.units (xe_nm 13 rfl) (xe_and (xe_nm 9 rfl) fun _ => (xe_one (xe_k (xkc_eq (x := (s_426.2.2.2.2.2.2.2.1 : Int)) (y := (((List.length s_426.2.2.2.2.1 : Nat) : Int) : Int)) hr.units (xe_nm 8 rfl) (xc_len (xs := s_426.2.2.2.2.1) (xe_nmV 5 rfl) (Rlm.ls (rmW (Own.slot 5 rfl))) m_len) rdD rdD)))) rdD rdD))))) (fun _ => (xg_st [some (aR K (List.map Cd.d (l_script : List Int))), some (pin pv_117 (aL [(aD K (Cd.d (s_426.1.1 : (List Int)))), (aD K (Cd.d (s_426.1.2.1 : Int))), (aD K (Cd.d (s_426.1.2.2.1 : Int))), (aD K (Cd.d (s_426.1.2.2.2 : Int)))])), some (pin pv_119 (o_Meter K cL s_426.2.1)), some (pin pv_121 (o_Biller K cL s_426.2.2.1)), some (pin pv_122 (aTD K (tD (s_426.2.2.2.1 : (List ((Int × Int) × Int)))))), some (pin pv_123 (aLD K (List.map Cd.d (s_426.2.2.2.2.1 : List (Int × (Tu (T3 Int Int Int))))))), some (pin pv_124 (aLD K (List.map Cd.d (s_426.2.2.2.2.2.1 : List Int)))), some (aD K (Cd.d (s_426.2.2.2.2.2.2.1 : Int))), some (aD K (Cd.d (s_426.2.2.2.2.2.2.2.1 : Int))), some (aD K (Cd.d (s_426.2.2.2.2.2.2.2.2 : Bool))), some (pin pv_125 (aTD K (tD (s_133.2.2.2.2.2.2.2.2.2 : (List ((Int × Int) × Int)))))), some (aD K (Cd.d (l_turn_134 : Int))), some (aD K (Cd.d (v_340.1 : Int))), some (aD K (Cd.d (v_512 : Bool))), none, none, none, none, none, none] rfl (xg_ret (A := (aD K (Cd.d (false : Bool)))) xe_bl (wk_k (wk_n (wk_n (wk_n (wk_n (wk_n (wk_n (wk_n (wk_n (wk_n (wk_n (wk_n (wk_n (wk_n (wk_n (wk_n (wk_n (wk_n (wk_n (wk_n (wk_n wk_0)))))))))))))))))))))))) (fun _ => (xg_st [some (aR K (List.map Cd.d (l_script : List Int))), some (pin pv_117 (aL [(aD K (Cd.d (s_426.1.1 : (List Int)))), (aD K (Cd.d (s_426.1.2.1 : Int))), (aD K (Cd.d (s_426.1.2.2.1 : Int))), (aD K (Cd.d (s_426.1.2.2.2 : Int)))])), some (pin pv_119 (o_Meter K cL s_426.2.1)), some (pin pv_121 (o_Biller K cL s_426.2.2.1)), some (pin pv_122 (aTD K (tD (s_426.2.2.2.1 : (List ((Int × Int) × Int)))))), some (pin pv_123 (aLD K (List.map Cd.d (s_426.2.2.2.2.1 : List (Int × (Tu (T3 Int Int Int))))))), some (pin pv_124 (aLD K (List.map Cd.d (s_426.2.2.2.2.2.1 : List Int)))), some (aD K (Cd.d (s_426.2.2.2.2.2.2.1 : Int))), some (aD K (Cd.d (s_426.2.2.2.2.2.2.2.1 : Int))), some (aD K (Cd.d (s_426.2.2.2.2.2.2.2.2 : Bool))), some (pin pv_125 (aTD K (tD (s_133.2.2.2.2.2.2.2.2.2 : (List ((Int × Int) × Int)))))), some (aD K (Cd.d (l_turn_134 : Int))), some (aD K (Cd.d (v_340.1 : Int))), some (aD K (Cd.d (v_512 : Bool))), none, none, none, none, none, none] rfl (xg_bind fun v_513 hv_513 =>
  (xg_ifRB (u := []) (xt_not (xt_v (xe_callX (xx := (s_426.2.2.1, s_426.2.2.2.2.1, s_426.2.2.2.2.2.2.1, s_426.2.2.2.1, s_133.2.2.2.2.2.2.2.2.2)) c_l_bills (hr.mono (by decide)) hv_513 (xx_lend 4 (xx_lend 3 (xx_lend 1 (xx_lend 0 (xx_of (xa_cons (xe_nmV 3 rfl) (xa_cons (xe_nmV 5 rfl) (xa_cons (xe_nm 7 rfl) (xa_cons (xe_nmV 4 rfl) (xa_cons (xe_nmV 10 rfl) xa_nil)))))) rfl (Own.slot 3 rfl)) rfl (Own.slot 5 rfl)) rfl (Own.slot 4 rfl)) rfl (Own.slot 10 rfl)) rfl rfl (Fill.cons 4 (List.Mem.head _) rfl (Own.slot 10 rfl) (Fill.cons 3 (List.Mem.tail _ (List.Mem.head _)) rfl (Own.slot 4 rfl) (Fill.cons 1 (List.Mem.tail _ (List.Mem.tail _ (List.Mem.head _))) rfl (Own.slot 5 rfl) (Fill.cons 0 (List.Mem.tail _ (List.Mem.tail _ (List.Mem.tail _ (List.Mem.head _)))) rfl (Own.slot 3 rfl) Fill.nil))))))) (fun _ => (xg_st [some (aR K (List.map Cd.d (l_script : List Int))), some (pin pv_117 (aL [(aD K (Cd.d (s_426.1.1 : (List Int)))), (aD K (Cd.d (s_426.1.2.1 : Int))), (aD K (Cd.d (s_426.1.2.2.1 : Int))), (aD K (Cd.d (s_426.1.2.2.2 : Int)))])), some (pin pv_119 (o_Meter K cL s_426.2.1)), some (pin pv_121 (o_Biller K cL v_513.2.1)), some (pin pv_122 (aTD K (tD (v_513.2.2.2.1 : (List ((Int × Int) × Int)))))), some (pin pv_123 (aLD K (List.map Cd.d (v_513.2.2.1 : List (Int × (Tu (T3 Int Int Int))))))), some (pin pv_124 (aLD K (List.map Cd.d (s_426.2.2.2.2.2.1 : List Int)))), some (aD K (Cd.d (s_426.2.2.2.2.2.2.1 : Int))), some (aD K (Cd.d (s_426.2.2.2.2.2.2.2.1 : Int))), some (aD K (Cd.d (s_426.2.2.2.2.2.2.2.2 : Bool))), some (pin pv_125 (aTD K (tD (v_513.2.2.2.2 : (List ((Int × Int) × Int)))))), some (aD K (Cd.d (l_turn_134 : Int))), some (aD K (Cd.d (v_340.1 : Int))), some (aD K (Cd.d (v_512 : Bool))), none, none, none, none, none, none] rfl (xg_ret (A := (aD K (Cd.d (false : Bool)))) xe_bl (wk_k (wk_n (wk_n (wk_n (wk_n (wk_n (wk_n (wk_n (wk_n (wk_n (wk_n (wk_n (wk_n (wk_n (wk_n (wk_n (wk_n (wk_n (wk_n (wk_n (wk_n wk_0)))))))))))))))))))))))) (fun _ => (xg_st [some (aR K (List.map Cd.d (l_script : List Int))), some (pin pv_117 (aL [(aD K (Cd.d (s_426.1.1 : (List Int)))), (aD K (Cd.d (s_426.1.2.1 : Int))), (aD K (Cd.d (s_426.1.2.2.1 : Int))), (aD K (Cd.d (s_426.1.2.2.2 : Int)))])), some (pin pv_119 (o_Meter K cL s_426.2.1)), some (pin pv_121 (o_Biller K cL v_513.2.1)), some (pin pv_122 (aTD K (tD (v_513.2.2.2.1 : (List ((Int × Int) × Int)))))), some (pin pv_123 (aLD K (List.map Cd.d (v_513.2.2.1 : List (Int × (Tu (T3 Int Int Int))))))), some (pin pv_124 (aLD K (List.map Cd.d (s_426.2.2.2.2.2.1 : List Int)))), some (aD K (Cd.d (s_426.2.2.2.2.2.2.1 : Int))), some (aD K (Cd.d (s_426.2.2.2.2.2.2.2.1 : Int))), some (aD K (Cd.d (s_426.2.2.2.2.2.2.2.2 : Bool))), some (pin pv_125 (aTD K (tD (v_513.2.2.2.2 : (List ((Int × Int) × Int)))))), some (aD K (Cd.d (l_turn_134 : Int))), some (aD K (Cd.d (v_340.1 : Int))), some (aD K (Cd.d (v_512 : Bool))), none, none, none, none, none, none] rfl (xg_st [some (aR K (List.map Cd.d (l_script : List Int))), some (pin pv_117 (aL [(aD K (Cd.d (s_426.1.1 : (List Int)))), (aD K (Cd.d (s_426.1.2.1 : Int))), (aD K (Cd.d (s_426.1.2.2.1 : Int))), (aD K (Cd.d (s_426.1.2.2.2 : Int)))])), some (pin pv_119 (o_Meter K cL s_426.2.1)), some (pin pv_121 (o_Biller K cL v_513.2.1)), some (pin pv_122 (aTD K (tD (v_513.2.2.2.1 : (List ((Int × Int) × Int)))))), some (pin pv_123 (aLD K (List.map Cd.d (v_513.2.2.1 : List (Int × (Tu (T3 Int Int Int))))))), some (pin pv_124 (aLD K (List.map Cd.d (s_426.2.2.2.2.2.1 : List Int)))), some (aD K (Cd.d (s_426.2.2.2.2.2.2.1 : Int))), some (aD K (Cd.d (s_426.2.2.2.2.2.2.2.1 : Int))), some (aD K (Cd.d (s_426.2.2.2.2.2.2.2.2 : Bool))), some (pin pv_125 (aTD K (tD (v_513.2.2.2.2 : (List ((Int × Int) × Int)))))), some (aD K (Cd.d (l_turn_134 : Int))), some (aD K (Cd.d (v_340.1 : Int))), some (aD K (Cd.d (v_512 : Bool))), none, none, none, none, none, none] rfl (xg_topen (Own.slot 4 rfl) (fun od_514 xd_515 => (xg_st [some (aR K (List.map Cd.d (l_script : List Int))), some (pin pv_117 (aL [(aD K (Cd.d (s_426.1.1 : (List Int)))), (aD K (Cd.d (s_426.1.2.1 : Int))), (aD K (Cd.d (s_426.1.2.2.1 : Int))), (aD K (Cd.d (s_426.1.2.2.2 : Int)))])), some (pin pv_119 (o_Meter K cL s_426.2.1)), some (pin pv_121 (o_Biller K cL v_513.2.1)), some (pin pv_122 (aTl K od_514 xd_515 (tD (v_513.2.2.2.1 : (List ((Int × Int) × Int)))))), some (pin pv_123 (aLD K (List.map Cd.d (v_513.2.2.1 : List (Int × (Tu (T3 Int Int Int))))))), some (pin pv_124 (aLD K (List.map Cd.d (s_426.2.2.2.2.2.1 : List Int)))), some (aD K (Cd.d (s_426.2.2.2.2.2.2.1 : Int))), some (aD K (Cd.d (s_426.2.2.2.2.2.2.2.1 : Int))), some (aD K (Cd.d (s_426.2.2.2.2.2.2.2.2 : Bool))), some (pin pv_125 (aTD K (tD (v_513.2.2.2.2 : (List ((Int × Int) × Int)))))), some (aD K (Cd.d (l_turn_134 : Int))), some (aD K (Cd.d (v_340.1 : Int))), some (aD K (Cd.d (v_512 : Bool))), none, none, none, none, none, none] rfl (xg_forRB (N := (fun s_516 : Unit => [some (aR K (List.map Cd.d (l_script : List Int))), some (pin pv_117 (aL [(aD K (Cd.d (s_426.1.1 : (List Int)))), (aD K (Cd.d (s_426.1.2.1 : Int))), (aD K (Cd.d (s_426.1.2.2.1 : Int))), (aD K (Cd.d (s_426.1.2.2.2 : Int)))])), some (pin pv_119 (o_Meter K cL s_426.2.1)), some (pin pv_121 (o_Biller K cL v_513.2.1)), some (pin pv_122 (aTl K od_514 xd_515 (tD (v_513.2.2.2.1 : (List ((Int × Int) × Int)))))), some (pin pv_123 (aLD K (List.map Cd.d (v_513.2.2.1 : List (Int × (Tu (T3 Int Int Int))))))), some (pin pv_124 (aLD K (List.map Cd.d (s_426.2.2.2.2.2.1 : List Int)))), some (aD K (Cd.d (s_426.2.2.2.2.2.2.1 : Int))), some (aD K (Cd.d (s_426.2.2.2.2.2.2.2.1 : Int))), some (aD K (Cd.d (s_426.2.2.2.2.2.2.2.2 : Bool))), some (pin pv_125 (aTD K (tD (v_513.2.2.2.2 : (List ((Int × Int) × Int)))))), some (aD K (Cd.d (l_turn_134 : Int))), some (aD K (Cd.d (v_340.1 : Int))), some (aD K (Cd.d (v_512 : Bool))), none, none, none, none, none, none])) PassesOwn.never rfl (xi_tkeys (kvs := v_513.2.2.2.1) (xe_nmV 4 rfl) (Own.slot 4 rfl)) (wk_k (wk_k (wk_k (wk_k (wk_k (wk_k (wk_k (wk_k (wk_k (wk_k (wk_k (wk_k (wk_k (wk_k (wk_n (wk_n (wk_n (wk_n (wk_n (wk_n wk_0)))))))))))))))))))) (fun _ => ⟨_, (Own.slot 4 rfl)⟩) (fun _ _ => (xp_nm 14)) (fun l_name_517 s_516 => (xg_st [some (aR K (List.map Cd.d (l_script : List Int))), some (pin pv_117 (aL [(aD K (Cd.d (s_426.1.1 : (List Int)))), (aD K (Cd.d (s_426.1.2.1 : Int))), (aD K (Cd.d (s_426.1.2.2.1 : Int))), (aD K (Cd.d (s_426.1.2.2.2 : Int)))])), some (pin pv_119 (o_Meter K cL s_426.2.1)), some (pin pv_121 (o_Biller K cL v_513.2.1)), some (pin pv_122 (aTl K od_514 xd_515 (tD (v_513.2.2.2.1 : (List ((Int × Int) × Int)))))), some (pin pv_123 (aLD K (List.map Cd.d (v_513.2.2.1 : List (Int × (Tu (T3 Int Int Int))))))), some (pin pv_124 (aLD K (List.map Cd.d (s_426.2.2.2.2.2.1 : List Int)))), some (aD K (Cd.d (s_426.2.2.2.2.2.2.1 : Int))), some (aD K (Cd.d (s_426.2.2.2.2.2.2.2.1 : Int))), some (aD K (Cd.d (s_426.2.2.2.2.2.2.2.2 : Bool))), some (pin pv_125 (aTD K (tD (v_513.2.2.2.2 : (List ((Int × Int) × Int)))))), some (aD K (Cd.d (l_turn_134 : Int))), some (aD K (Cd.d (v_340.1 : Int))), some (aD K (Cd.d (v_512 : Bool))), some (aD K (Cd.d (l_name_517 : (Int × Int)))), none, none, none, none, none] rfl (xg_bind fun v_538 hv_538 =>
  (xg_bind fun d_539 hd_539 =>
  (xg_bind fun c_543 hc_543 =>
  (xg_ifRB (u := []) (xt_w (xw_orM (xt_k (xkc_ne (x := (v_538 : Int)) (y := (d_539 : Int)) hr.units (xe_methX (xx := (s_426.2.1, l_name_517.1, l_name_517.2)) c_Meter_metered HX.T_Meter.cl nm_Meter_metered (hr.mono (by decide)) hv_538 (xe_nmV 2 rfl) (Own.slot 2 rfl) (xx_of (xa_cons (xe_ixT (xe_nm 14 rfl) xe_int rtD rfl) (xa_cons (xe_ixT (xe_nm 14 rfl) xe_int rtD rfl) xa_nil))) (Own.slot 2 rfl) rfl rfl rfl rfl (Fill.cons 0 (List.Mem.head _) rfl (Own.slot 2 rfl) Fill.nil)) (xe_tgetL (kvs := v_513.2.2.2.1) (k := (l_name_517 : Int × Int)) hr.units hd_539 (xe_nmV 4 rfl) (xe_nm 14 rfl) (Own.slot 4 rfl)) rdD rdD)) (xwm_or1 (xtm_bind fun c_542 hc_542 => (xtm_some (xt_w (xw_andM (xt_v (xe_nm 13 rfl)) (xwm_and1 (xtm_bind fun v_541 hv_541 => (xtm_some (xt_k (xkc_ne (x := (v_541 : Int)) (y := (d_539 : Int)) hr.units (xe_methX (xx := (v_513.2.1, l_name_517.1, l_name_517.2)) c_Biller_bill HX.T_Biller.cl nm_Biller_bill (hr.mono (by decide)) hv_541 (xe_nmV 3 rfl) (Own.slot 3 rfl) (xx_of (xa_cons (xe_ixT (xe_nm 14 rfl) xe_int rtD rfl) (xa_cons (xe_ixT (xe_nm 14 rfl) xe_int rtD rfl) xa_nil))) (Own.slot 3 rfl) rfl rfl rfl rfl (Fill.cons 0 (List.Mem.head _) rfl (Own.slot 3 rfl) Fill.nil)) (xe_tgetL (kvs := v_513.2.2.2.1) (k := (l_name_517 : Int × Int)) hr.units hd_539 (xe_nmV 4 rfl) (xe_nm 14 rfl) (Own.slot 4 rfl)) rdD rdD))))) hc_542))))) hc_543)) (fun _ => (xg_st [some (aR K (List.map Cd.d (l_script : List Int))), some (pin pv_117 (aL [(aD K (Cd.d (s_426.1.1 : (List Int)))), (aD K (Cd.d (s_426.1.2.1 : Int))), (aD K (Cd.d (s_426.1.2.2.1 : Int))), (aD K (Cd.d (s_426.1.2.2.2 : Int)))])), some (pin pv_119 (o_Meter K cL s_426.2.1)), some (pin pv_121 (o_Biller K cL v_513.2.1)), some (pin pv_122 (aTl K od_514 xd_515 (tD (v_513.2.2.2.1 : (List ((Int × Int) × Int)))))), some (pin pv_123 (aLD K (List.map Cd.d (v_513.2.2.1 : List (Int × (Tu (T3 Int Int Int))))))), some (pin pv_124 (aLD K (List.map Cd.d (s_426.2.2.2.2.2.1 : List Int)))), some (aD K (Cd.d (s_426.2.2.2.2.2.2.1 : Int))), some (aD K (Cd.d (s_426.2.2.2.2.2.2.2.1 : Int))), some (aD K (Cd.d (s_426.2.2.2.2.2.2.2.2 : Bool))), some (pin pv_125 (aTD K (tD (v_513.2.2.2.2 : (List ((Int × Int) × Int)))))), some (aD K (Cd.d (l_turn_134 : Int))), some (aD K (Cd.d (v_340.1 : Int))), some (aD K (Cd.d (v_512 : Bool))), some (aD K (Cd.d (l_name_517 : (Int × Int)))), none, none, none, none, none] rfl (xg_ret (A := (aD K (Cd.d (false : Bool)))) xe_bl (wk_k (wk_n (wk_n (wk_n (wk_n (wk_n (wk_n (wk_n (wk_n (wk_n (wk_n (wk_n (wk_n (wk_n (wk_n (wk_n (wk_n (wk_n (wk_n (wk_n (wk_n wk_0)))))))))))))))))))))))) (fun _ => (xg_st [some (aR K (List.map Cd.d (l_script : List Int))), some (pin pv_117 (aL [(aD K (Cd.d (s_426.1.1 : (List Int)))), (aD K (Cd.d (s_426.1.2.1 : Int))), (aD K (Cd.d (s_426.1.2.2.1 : Int))), (aD K (Cd.d (s_426.1.2.2.2 : Int)))])), some (pin pv_119 (o_Meter K cL s_426.2.1)), some (pin pv_121 (o_Biller K cL v_513.2.1)), some (pin pv_122 (aTl K od_514 xd_515 (tD (v_513.2.2.2.1 : (List ((Int × Int) × Int)))))), some (pin pv_123 (aLD K (List.map Cd.d (v_513.2.2.1 : List (Int × (Tu (T3 Int Int Int))))))), some (pin pv_124 (aLD K (List.map Cd.d (s_426.2.2.2.2.2.1 : List Int)))), some (aD K (Cd.d (s_426.2.2.2.2.2.2.1 : Int))), some (aD K (Cd.d (s_426.2.2.2.2.2.2.2.1 : Int))), some (aD K (Cd.d (s_426.2.2.2.2.2.2.2.2 : Bool))), some (pin pv_125 (aTD K (tD (v_513.2.2.2.2 : (List ((Int × Int) × Int)))))), some (aD K (Cd.d (l_turn_134 : Int))), some (aD K (Cd.d (v_340.1 : Int))), some (aD K (Cd.d (v_512 : Bool))), some (aD K (Cd.d (l_name_517 : (Int × Int)))), none, none, none, none, none] rfl (xg_nilB (wk_k (wk_k (wk_k (wk_k (wk_k (wk_k (wk_k (wk_k (wk_k (wk_k (wk_k (wk_k (wk_k (wk_k (wk_n (wk_n (wk_n (wk_n (wk_n (wk_n wk_0))))))))))))))))))))))))))))) (fun s_544 => (by exact xg_weak (ρ := [some (aR K (List.map Cd.d (l_script : List Int))), some (pin pv_117 (aL [(aD K (Cd.d (s_426.1.1 : (List Int)))), (aD K (Cd.d (s_426.1.2.1 : Int))), (aD K (Cd.d (s_426.1.2.2.1 : Int))), (aD K (Cd.d (s_426.1.2.2.2 : Int)))])), some (pin pv_119 (o_Meter K cL s_426.2.1)), some (pin pv_121 (o_Biller K cL v_513.2.1)), some (pin pv_122 (aTl K od_514 xd_515 (tD (v_513.2.2.2.1 : (List ((Int × Int) × Int)))))), some (pin pv_123 (aLD K (List.map Cd.d (v_513.2.2.1 : List (Int × (Tu (T3 Int Int Int))))))), some (pin pv_124 (aLD K (List.map Cd.d (s_426.2.2.2.2.2.1 : List Int)))), some (aD K (Cd.d (s_426.2.2.2.2.2.2.1 : Int))), some (aD K (Cd.d (s_426.2.2.2.2.2.2.2.1 : Int))), some (aD K (Cd.d (s_426.2.2.2.2.2.2.2.2 : Bool))), some (pin pv_125 (aTD K (tD (v_513.2.2.2.2 : (List ((Int × Int) × Int)))))), some (aD K (Cd.d (l_turn_134 : Int))), some (aD K (Cd.d (v_340.1 : Int))), some (aD K (Cd.d (v_512 : Bool))), none, none, none, none, none, none]) (B := (pin pv_122 (aTD K (tD (v_513.2.2.2.1 : (List ((Int × Int) × Int))))))) 4 rfl (imp_pin imp_tl) (xg_st [some (aR K (List.map Cd.d (l_script : List Int))), some (pin pv_117 (aL [(aD K (Cd.d (s_426.1.1 : (List Int)))), (aD K (Cd.d (s_426.1.2.1 : Int))), (aD K (Cd.d (s_426.1.2.2.1 : Int))), (aD K (Cd.d (s_426.1.2.2.2 : Int)))])), some (pin pv_119 (o_Meter K cL s_426.2.1)), some (pin pv_121 (o_Biller K cL v_513.2.1)), some (pin pv_122 (aTD K (tD (v_513.2.2.2.1 : (List ((Int × Int) × Int)))))), some (pin pv_123 (aLD K (List.map Cd.d (v_513.2.2.1 : List (Int × (Tu (T3 Int Int Int))))))), some (pin pv_124 (aLD K (List.map Cd.d (s_426.2.2.2.2.2.1 : List Int)))), some (aD K (Cd.d (s_426.2.2.2.2.2.2.1 : Int))), some (aD K (Cd.d (s_426.2.2.2.2.2.2.2.1 : Int))), some (aD K (Cd.d (s_426.2.2.2.2.2.2.2.2 : Bool))), some (pin pv_125 (aTD K (tD (v_513.2.2.2.2 : (List ((Int × Int) × Int)))))), some (aD K (Cd.d (l_turn_134 : Int))), some (aD K (Cd.d (v_340.1 : Int))), some (aD K (Cd.d (v_512 : Bool))), none, none, none, none, none, none] rfl (xg_nilB (wk_k (wk_k (wk_k (wk_k (wk_k (wk_k (wk_k (wk_k (wk_k (wk_k (wk_k (wk_n (wk_n (wk_n (wk_n (wk_n (wk_n (wk_n (wk_n (wk_n wk_0))))))))))))))))))))))))))))))))))))))))))))))) (fun s_545 => (xg_st [some (aR K (List.map Cd.d (l_script : List Int))), some (pin pv_117 (aL [(aD K (Cd.d (s_545.1.1 : (List Int)))), (aD K (Cd.d (s_545.1.2.1 : Int))), (aD K (Cd.d (s_545.1.2.2.1 : Int))), (aD K (Cd.d (s_545.1.2.2.2 : Int)))])), some (pin pv_119 (o_Meter K cL s_545.2.1)), some (pin pv_121 (o_Biller K cL s_545.2.2.1)), some (pin pv_122 (aTD K (tD (s_545.2.2.2.1 : (List ((Int × Int) × Int)))))), some (pin pv_123 (aLD K (List.map Cd.d (s_545.2.2.2.2.1 : List (Int × (Tu (T3 Int Int Int))))))), some (pin pv_124 (aLD K (List.map Cd.d (s_545.2.2.2.2.2.1 : List Int)))), some (aD K (Cd.d (s_545.2.2.2.2.2.2.1 : Int))), some (aD K (Cd.d (s_545.2.2.2.2.2.2.2.1 : Int))), some (aD K (Cd.d (s_545.2.2.2.2.2.2.2.2.1 : Bool))), some (pin pv_125 (aTD K (tD (s_545.2.2.2.2.2.2.2.2.2 : (List ((Int × Int) × Int)))))), none, none, none, none, none, none, none, none, none] rfl (xg_bind fun v_546 hv_546 =>
  (xg_ret (A := (aD K (Cd.d ((decide ((v_546 : Int) = 0)) : Bool)))) (xe_k (xkc_eq (x := (v_546 : Int)) (y := (0 : Int)) hr.units (xe_methX (xx := (s_545.2.1, 9, 0)) c_Meter_metered HX.T_Meter.cl nm_Meter_metered (hr.mono (by decide)) hv_546 (xe_nmV 2 rfl) (Own.slot 2 rfl) (xx_of (xa_cons xe_int (xa_cons xe_int xa_nil))) (Own.slot 2 rfl) rfl rfl rfl rfl (Fill.cons 0 (List.Mem.head _) rfl (Own.slot 2 rfl) Fill.nil)) xe_int rdD rdD)) (wk_k (wk_n (wk_n (wk_n (wk_n (wk_n (wk_n (wk_n (wk_n (wk_n (wk_n (wk_n (wk_n (wk_n (wk_n (wk_n (wk_n (wk_n (wk_n (wk_n (wk_n wk_0))))))))))))))))))))))))))))))))))))))))))))))))))))))))

section
variable {α : Type}
theorem tGet_put (l : List (I2 × α)) (k j : I2) (v : α) : tGet (tPut l k v) j = if j = k then some v else tGet l j := by
  unfold tPut
  by_cases h : (tGet l k).isSome = true
  · rw [if_pos h]
    induction l with
    | nil => simp [tGet] at h
    | cons kv l ih =>
      rw [List.map_cons, tGet_cons, tGet_cons]
      rw [tGet_cons] at h
      by_cases e : kv.1 = k
      · rw [if_pos e]
        by_cases e2 : k = j
        · rw [if_pos (e.trans e2), if_pos e2.symm]
        · rw [if_neg (fun z => e2 (e.symm.trans z)), if_neg (fun z => e2 (e.symm.trans z)), if_neg (fun z => e2 z.symm)]
          by_cases h2 : (tGet l k).isSome = true
          · have := ih h2
            rw [if_neg (fun z => e2 z.symm)] at this
            exact this
          · have nm : ∀ (m : List (I2 × α)), ¬ (tGet m k).isSome = true → m.map (fun kv => if kv.1 = k then (kv.1, v) else kv) = m := fun m => by
              induction m with
              | nil => intro _; rfl
              | cons a m ihm =>
                intro hm
                rw [tGet_cons] at hm
                by_cases ea : a.1 = k
                · rw [if_pos ea] at hm; exact absurd rfl hm
                · rw [if_neg ea] at hm
                  rw [List.map_cons, if_neg ea, ihm hm]
            rw [nm l h2]
      · rw [if_neg e] at h ⊢
        rw [ih h]
        by_cases e3 : kv.1 = j
        · rw [if_pos e3, if_pos e3, if_neg (fun z => e (e3.trans z))]
        · rw [if_neg e3, if_neg e3]
  · rw [if_neg h]
    induction l with
    | nil =>
      show tGet [(k, v)] j = _
      rw [tGet_cons]
      by_cases e : j = k
      · rw [if_pos e.symm, if_pos e]
      · rw [if_neg (fun z => e z.symm), if_neg e]
    | cons kv l ih =>
      rw [tGet_cons] at h
      by_cases e : kv.1 = k
      · rw [if_pos e] at h; exact absurd rfl h
      · rw [if_neg e] at h
        rw [List.cons_append, tGet_cons, tGet_cons, ih h]
        by_cases e3 : kv.1 = j
        · rw [if_pos e3, if_pos e3, if_neg (fun z => e (e3.trans z))]
        · rw [if_neg e3, if_neg e3]
theorem tGet_mem {l : List (I2 × α)} {k : I2} : (tGet l k).isSome = true ↔ k ∈ tKeys l := by
  unfold tKeys
  induction l with
  | nil => simp [tGet]
  | cons kv l ih =>
    rw [tGet_cons, List.map_cons, List.mem_cons]
    by_cases e : kv.1 = k
    · rw [if_pos e]
      exact ⟨fun _ => .inl e.symm, fun _ => rfl⟩
    · rw [if_neg e, ih]
      exact ⟨.inr, fun h => h.resolve_left fun z => e z.symm⟩
theorem tKeys_put (l : List (I2 × α)) (k : I2) (v : α) : tKeys (tPut l k v) = if k ∈ tKeys l then tKeys l else tKeys l ++ [k] := by
  unfold tPut
  by_cases h : (tGet l k).isSome = true
  · rw [if_pos h, if_pos (tGet_mem.mp h)]
    unfold tKeys
    rw [List.map_map]
    refine List.map_congr_left fun kv _ => ?_
    show (if kv.1 = k then (kv.1, v) else kv).1 = kv.1
    split <;> rfl
  · rw [if_neg h, if_neg (fun z => h (tGet_mem.mpr z))]
    unfold tKeys
    rw [List.map_append]
    rfl
theorem tlen_put (l : List (I2 × α)) (k : I2) (v : α) : (tPut l k v).length ≤ l.length + 1 := by
  have e := congrArg List.length (tKeys_put l k v)
  unfold tKeys at e
  rw [List.length_map] at e
  rw [e]
  split
  · rw [List.length_map]; omega
  · rw [List.length_append, List.length_map]; exact Nat.le_refl _
end

abbrev R3 := T3 Int Int Int
def rk (r : R3) : I2 := (r.a, r.b)
def val (rows : List R3) (k : I2) : Int := ((rows.find? fun r => decide (rk r = k)).map (·.c)).getD 0
def sv (S : List (I2 × Int)) (k : I2) : Int := (tGet S k).getD 0
theorem val_cons (r : R3) (rs : List R3) (k : I2) : val (r :: rs) k = if rk r = k then r.c else val rs k := by
  unfold val
  by_cases e : rk r = k <;> simp [List.find?_cons, e]
theorem rk_eq (r : R3) (x y : Int) : ((decide ((r.a : Int) = x)) && (decide ((r.b : Int) = y))) = decide (rk r = (x, y)) := by
  unfold rk
  by_cases h1 : r.a = x <;> by_cases h2 : r.b = y <;> simp [h1, h2]
theorem bill_eq (b : M_Biller) (x y : Int) : m_Biller_bill b x y = some (val b.rows.l (x, y)) := by
  unfold m_Biller_bill
  generalize b.rows.l = rs
  induction rs with
  | nil => rfl
  | cons r rs ih =>
    rw [val_cons]
    show thenR (Option.bind _ _) _ _ = _
    dsimp only
    rw [rk_eq]
    by_cases e : rk r = (x, y)
    · rw [if_pos (decide_eq_true e), if_pos e]; rfl
    · rw [if_neg (by simp [e]), if_neg e]
      exact ih
theorem due_eq (x y : Int) : ∀ (rs : List R3) (s : Int), (rs.map rk).Nodup → List.foldlM (fun (s_108 : Int) (l_row_109 : (T3 Int Int Int)) =>
  (Option.bind (if ((decide ((l_row_109.a : Int) = x)) && (decide ((l_row_109.b : Int) = y))) = true then
  (some l_row_109.c) else
  (some s_108)) fun s_111 =>
  (some s_111))) s rs = some (((rs.find? fun r => decide (rk r = (x, y))).map (·.c)).getD s)
  | [], s, _ => rfl
  | r :: rs, s, h => by
    obtain ⟨h1, h2⟩ := List.nodup_cons.mp h
    show Option.bind _ _ = _
    dsimp only
    rw [rk_eq]
    by_cases e : rk r = (x, y)
    · rw [if_pos (decide_eq_true e), bsome, bsome]
      rw [due_eq x y rs r.c h2]
      have hn : rs.find? (fun r => decide (rk r = (x, y))) = none := List.find?_eq_none.mpr fun q hq z => h1 (by
        rw [e, ← of_decide_eq_true z]
        exact List.mem_map_of_mem hq)
      rw [hn]
      simp [List.find?_cons, e]
    · rw [if_neg (by simp [e]), bsome, bsome]
      rw [due_eq x y rs s h2]
      simp [List.find?_cons, e]
def rw3 (S : List (I2 × Int)) (k : I2) : R3 := T3.mk k.1 k.2 (sv S k)
def rows (S : List (I2 × Int)) : List R3 := (srt2 (tKeys S)).map (rw3 S)
theorem val_map (S : List (I2 × Int)) (k : I2) : ∀ ks : List I2, val (ks.map (rw3 S)) k = if k ∈ ks then sv S k else 0
  | [] => rfl
  | a :: ks => by
    rw [List.map_cons, val_cons, val_map S k ks]
    by_cases e : a = k
    · subst e
      rw [if_pos (show rk (rw3 S a) = a from rfl), if_pos (by simp)]
      rfl
    · rw [if_neg (show ¬ rk (rw3 S a) = k from e)]
      by_cases m : k ∈ ks
      · rw [if_pos m, if_pos (List.mem_cons_of_mem _ m)]
      · rw [if_neg m, if_neg (fun z => (List.mem_cons.mp z).elim (fun z => e z.symm) m)]
theorem val_rows (S : List (I2 × Int)) (k : I2) : val (rows S) k = sv S k := by
  unfold rows
  rw [val_map]
  by_cases m : k ∈ srt2 (tKeys S)
  · rw [if_pos m]
  · rw [if_neg m]
    unfold sv
    have : ¬ (tGet S k).isSome = true := fun z => m ((srt2_perm _).mem_iff.mpr (tGet_mem.mp z))
    cases e : tGet S k with
    | none => rfl
    | some _ => rw [e] at this; exact absurd rfl this
theorem rows_nd {S : List (I2 × Int)} (h : (tKeys S).Nodup) : ((rows S).map rk).Nodup := by
  unfold rows
  rw [List.map_map, show (rk ∘ rw3 S) = id from rfl, List.map_id]
  exact (srt2_perm _).nodup_iff.mpr h
structure Sums (n : Nat) (S : List (I2 × Int)) : Prop where
  len : S.length ≤ n
  nd : (tKeys S).Nodup
  bd : ∀ k ∈ tKeys S, (0 ≤ k.1 ∧ k.1 < 4) ∧ (0 ≤ k.2 ∧ k.2 < 2)
  nn : ∀ k, 0 ≤ sv S k
theorem Sums.nil : Sums 0 [] := ⟨Nat.le_refl _, .nil, fun k h => by simp [tKeys] at h, fun k => Int.le_refl _⟩
theorem Sums.mono {n : Nat} {S : List (I2 × Int)} (h : Sums n S) : Sums (n + 1) S := ⟨Nat.le_succ_of_le h.len, h.nd, h.bd, h.nn⟩
theorem sv_put (S : List (I2 × Int)) (k j : I2) (v : Int) : sv (tPut S k v) j = if j = k then v else sv S j := by
  unfold sv
  rw [tGet_put]
  split <;> rfl
theorem Sums.put {n : Nat} {S : List (I2 × Int)} (h : Sums n S) {x y v : Int} (hx : 0 ≤ x ∧ x < 4) (hy : 0 ≤ y ∧ y < 2) (hv : 0 ≤ v) : Sums (n + 1) (tPut S (x, y) (sv S (x, y) + v)) where
  len := by have := tlen_put S (x, y) (sv S (x, y) + v); have := h.len; omega
  nd := by
    rw [tKeys_put]
    split
    · exact h.nd
    · rename_i m
      exact List.nodup_append.mpr ⟨h.nd, by simp, fun a ha b hb e => m (by simp at hb; rw [← hb, ← e]; exact ha)⟩
  bd := fun k hk => by
    rw [tKeys_put] at hk
    split at hk
    · exact h.bd k hk
    · rcases List.mem_append.mp hk with m | m
      · exact h.bd k m
      · simp at m
        subst m
        exact ⟨hx, hy⟩
  nn := fun k => by
    rw [sv_put]
    split
    · have := h.nn (x, y); omega
    · exact h.nn k
theorem Sums.ok {n : Nat} {S : List (I2 × Int)} (h : Sums n S) (hn : n ≤ 60) : Ok2 (tKeys S) := by
  refine ⟨?_, fun k hk => ?_⟩
  · unfold tKeys
    rw [List.length_map]
    have := h.len
    omega
  · have := h.bd k hk
    omega
theorem Sums.rows_some {n : Nat} {S : List (I2 × Int)} (h : Sums n S) (hn : n ≤ 60) : m_l_rows S = some (Tu.mk (rows S)) := by
  unfold m_l_rows
  rw [guardO_some (h.ok hn), bsome]
  rw [mapO_some (g := rw3 S) ?_ fun k hk => ?_]
  · rfl
  · rw [(srt2_perm _).length_eq]
    have := (h.ok hn).1
    omega
  · have m := tGet_mem.mpr ((srt2_perm _).mem_iff.mp hk)
    obtain ⟨d, e⟩ := Option.isSome_iff_exists.mp m
    show Option.bind (tGet S k) _ = _
    rw [e, bsome]
    unfold rw3 sv
    rw [e]
    rfl
theorem Sums.write {n : Nat} {m : M_Meter} (h : Sums n m.sums) (hn : n ≤ 60) : m_Meter_write m = some ((m.serial + 1, Tu.mk (rows m.sums)), { m with serial := m.serial + 1, letter := some (m.serial + 1, Tu.mk (rows m.sums)), is_written := true }) := by
  unfold m_Meter_write
  rw [guardO_some (h.ok hn), bsome]
  rw [mapO_some (g := rw3 m.sums) ?_ fun k hk => ?_]
  · rfl
  · rw [(srt2_perm _).length_eq]
    have := (h.ok hn).1
    omega
  · have z := tGet_mem.mpr ((srt2_perm _).mem_iff.mp hk)
    obtain ⟨d, e⟩ := Option.isSome_iff_exists.mp z
    show Option.bind (tGet m.sums k) _ = _
    rw [e, bsome]
    unfold rw3 sv
    rw [e]
    rfl

theorem next_some (t : ((List Int) × Int × Int × Int)) (m : Int) (h : 0 ≤ t.2.1) (hm : 0 < m ∧ m < 2 ^ 64) : ∃ x t', m_l_next t m = some (x, t') ∧ (0 ≤ x ∧ x < m) ∧ 0 ≤ t'.2.1 := by
  obtain ⟨L, p, r, s⟩ := t
  have h : 0 ≤ p := h
  unfold m_l_next
  have dm : ∀ v, divM v m = some (v / m) := fun v => divM_some ⟨hm.1, hm.2⟩
  have rm : ∀ v : Int, 0 ≤ v % m ∧ v % m < m := fun v => ⟨Int.emod_nonneg _ (by omega), Int.emod_lt_of_pos _ hm.1⟩
  dsimp only
  by_cases q : r = 0
  · rw [if_pos (decide_eq_true q)]
    obtain ⟨c, p', hp', e⟩ : ∃ (c p' : Int), 0 ≤ p' ∧ (if (decide (p < ((List.length L : Nat) : Int))) = true then
  (Option.bind (atI L p) fun x_575 =>
  (lett ((if x_575 < 0 then -x_575 else x_575) : Int) fun l_cell_576 =>
  (lett ((p + 1) : Int) fun e_577 =>
  (some (((L, e_577, r, s) : ((List Int) × Int × Int × Int)), l_cell_576))))) else
  (some (((L, p, r, s) : ((List Int) × Int × Int × Int)), (0 : Int)))) = some ((L, p', r, s), c) := by
      by_cases q2 : p < (L.length : Int)
      · obtain ⟨x, ex, _⟩ := atI_lt h q2
        rw [if_pos (decide_eq_true q2), ex, bsome, lett_eq, lett_eq]
        exact ⟨_, p + 1, by omega, rfl⟩
      · rw [if_neg (by simp [q2])]
        exact ⟨0, p, h, rfl⟩
    rw [e, bsome]
    dsimp only
    by_cases q3 : c < 1000000000000000000
    · rw [if_pos (decide_eq_true q3), lett_eq, modM_some hm.1, bsome]
      exact ⟨_, _, rfl, rm _, hp'⟩
    · rw [if_neg (by simpa using q3), thenR_r rfl]
      dsimp only
      rw [dm, bsome, modM_some hm.1, bsome]
      exact ⟨_, _, rfl, rm _, hp'⟩
  · rw [if_neg (by simpa using q), thenR_r rfl]
    dsimp only
    rw [dm, bsome, modM_some hm.1, bsome]
    exact ⟨_, _, rfl, rm _, h⟩

abbrev LT := Int × Tu R3
def vl (Ls : List LT) (i : Nat) (k : I2) : Int := if i = 0 then 0 else val (((Ls[i - 1]?).map (·.2.l)).getD []) k
theorem vl_app {Ls : List LT} {x : LT} {i : Nat} (h : i ≤ Ls.length) (k : I2) : vl (Ls ++ [x]) i k = vl Ls i k := by
  unfold vl
  by_cases e : i = 0
  · rw [if_pos e, if_pos e]
  · rw [if_neg e, if_neg e, List.getElem?_append_left (by omega)]
theorem vl_new {Ls : List LT} {x : LT} (k : I2) : vl (Ls ++ [x]) (Ls.length + 1) k = val x.2.l k := by
  unfold vl
  rw [if_neg (by omega), show Ls.length + 1 - 1 = Ls.length by omega, List.getElem?_append_right (Nat.le_refl _), Nat.sub_self]
  rfl
structure Lets (S : List (I2 × Int)) (Ls : List LT) : Prop where
  num : ∀ (i : Nat) (l : LT), Ls[i]? = some l → l.1 = (i : Int) + 1
  nd : ∀ l ∈ Ls, (l.2.l.map rk).Nodup
  mono : ∀ (i j : Nat) (k : I2), i ≤ j → j ≤ Ls.length → vl Ls i k ≤ vl Ls j k
  top : ∀ k, vl Ls Ls.length k ≤ sv S k
theorem Lets.nil : Lets [] [] := ⟨fun i l h => by simp at h, fun l h => by simp at h, fun i j k h1 h2 => by
  have e1 : j = 0 := by simpa using h2
  have e2 : i = 0 := by omega
  rw [e1, e2]
  exact Int.le_refl _, fun k => Int.le_refl _⟩
theorem Lets.grow {S S' : List (I2 × Int)} {Ls : List LT} (h : Lets S Ls) (g : ∀ k, sv S k ≤ sv S' k) : Lets S' Ls := ⟨h.num, h.nd, h.mono, fun k => Int.le_trans (h.top k) (g k)⟩
theorem Lets.app {S : List (I2 × Int)} {Ls : List LT} (h : Lets S Ls) (hn : (tKeys S).Nodup) : Lets S (Ls ++ [((Ls.length : Int) + 1, Tu.mk (rows S))]) where
  num := fun i l e => by
    by_cases q : i < Ls.length
    · rw [List.getElem?_append_left q] at e
      exact h.num i l e
    · rw [List.getElem?_append_right (by omega)] at e
      have hi : i - Ls.length = 0 := by
        have := (List.getElem?_eq_some_iff.mp e).1
        simp at this
        omega
      rw [hi] at e
      cases e
      show (Ls.length : Int) + 1 = _
      omega
  nd := fun l hl => by
    rcases List.mem_append.mp hl with m | m
    · exact h.nd l m
    · simp at m
      subst m
      exact rows_nd hn
  mono := fun i j k h1 h2 => by
    rw [List.length_append, List.length_cons, List.length_nil] at h2
    by_cases q : j ≤ Ls.length
    · rw [vl_app q, vl_app (Nat.le_trans h1 q)]
      exact h.mono i j k h1 q
    · have ej : j = Ls.length + 1 := by omega
      subst ej
      by_cases q2 : i ≤ Ls.length
      · rw [vl_app q2, vl_new]
        show _ ≤ val (rows S) k
        rw [val_rows]
        exact Int.le_trans (h.mono i _ k q2 (Nat.le_refl _)) (h.top k)
      · have ei : i = Ls.length + 1 := by omega
        rw [ei]
        exact Int.le_refl _
  top := fun k => by
    rw [List.length_append, List.length_cons, List.length_nil, vl_new]
    show val (rows S) k ≤ _
    rw [val_rows]
    exact Int.le_refl _
abbrev TP4 := (List Int) × Int × Int × Int
structure J (n c : Nat) (bf : List (I2 × Int)) (t : TP4) (m : M_Meter) (b : M_Biller) (S : List (I2 × Int)) (Ls : List LT) (As : List Int) (nw kn : Int) (cl : Bool) : Prop where
  tp : 0 ≤ t.2.1
  su : Sums n S
  ms : m.sums = S
  le : Lets S Ls
  ll : Ls.length ≤ n
  al : As.length ≤ n
  ser : m.serial = (Ls.length : Int)
  ans : m.answered = kn
  wr : m.is_written = cl
  bs : b.serial = nw
  nb : 0 ≤ nw ∧ nw ≤ (Ls.length : Int)
  br : 0 < nw → ∃ l, Ls[(nw - 1).toNat]? = some l ∧ b.rows = l.2
  br0 : nw = 0 → b.rows = Tu.mk []
  kb : 0 ≤ kn ∧ kn ≤ nw
  as : ∀ a ∈ As, 0 ≤ a ∧ a ≤ nw
  cle : cl = true → ∀ k, vl Ls Ls.length k = sv S k
  bl : bf.length ≤ c
  bfv : ∀ k, sv bf k ≤ vl Ls nw.toNat k
section
variable {n c : Nat} {bf : List (I2 × Int)} {t : TP4} {m : M_Meter} {b : M_Biller} {S : List (I2 × Int)} {Ls : List LT} {As : List Int} {nw kn : Int} {cl : Bool}
theorem J.valE (A : J n c bf t m b S Ls As nw kn cl) (k : I2) : val b.rows.l k = vl Ls nw.toNat k := by
  unfold vl
  by_cases q : nw = 0
  · rw [A.br0 q, q]
    rfl
  · have := A.nb
    obtain ⟨l, e1, e2⟩ := A.br (by omega)
    rw [if_neg (by omega), show nw.toNat - 1 = (nw - 1).toNat by omega, e1, e2]
    rfl
theorem J.tape (A : J n c bf t m b S Ls As nw kn cl) {t' : TP4} (h : 0 ≤ t'.2.1) : J n c bf t' m b S Ls As nw kn cl := ⟨h, A.su, A.ms, A.le, A.ll, A.al, A.ser, A.ans, A.wr, A.bs, A.nb, A.br, A.br0, A.kb, A.as, A.cle, A.bl, A.bfv⟩
theorem J.up (A : J n c bf t m b S Ls As nw kn cl) : J (n + 1) c bf t m b S Ls As nw kn cl := ⟨A.tp, A.su.mono, A.ms, A.le, Nat.le_succ_of_le A.ll, Nat.le_succ_of_le A.al, A.ser, A.ans, A.wr, A.bs, A.nb, A.br, A.br0, A.kb, A.as, A.cle, A.bl, A.bfv⟩
/-- a packet is metered -/
theorem J.add (A : J n c bf t m b S Ls As nw kn cl) {x y v : Int} (hx : 0 ≤ x ∧ x < 4) (hy : 0 ≤ y ∧ y < 2) (hv : 0 ≤ v) :
    J (n + 1) c bf t { m with sums := tPut m.sums (x, y) (sv m.sums (x, y) + v), is_written := false } b (tPut S (x, y) (sv S (x, y) + v)) Ls As nw kn false where
  tp := A.tp
  su := A.su.put hx hy hv
  ms := by show tPut m.sums _ _ = _; rw [A.ms]
  le := A.le.grow fun k => by
    rw [sv_put]
    split
    · rename_i e; rw [e]; omega
    · exact Int.le_refl _
  ll := Nat.le_succ_of_le A.ll
  al := Nat.le_succ_of_le A.al
  ser := A.ser
  ans := A.ans
  wr := rfl
  bs := A.bs
  nb := A.nb
  br := A.br
  br0 := A.br0
  kb := A.kb
  as := A.as
  cle := fun h => absurd h (by decide)
  bl := A.bl
  bfv := A.bfv
/-- a letter is written -/
theorem J.write (A : J n c bf t m b S Ls As nw kn cl) :
    J (n + 1) c bf t { m with serial := m.serial + 1, letter := some (m.serial + 1, Tu.mk (rows m.sums)), is_written := true } b S (Ls ++ [((Ls.length : Int) + 1, Tu.mk (rows S))]) As nw kn true where
  tp := A.tp
  su := A.su.mono
  ms := A.ms
  le := A.le.app A.su.nd
  ll := by rw [List.length_append]; exact Nat.succ_le_succ A.ll
  al := Nat.le_succ_of_le A.al
  ser := by
    show m.serial + 1 = _
    rw [A.ser, List.length_append, List.length_cons, List.length_nil]
    omega
  ans := A.ans
  wr := rfl
  bs := A.bs
  nb := by
    rw [List.length_append, List.length_cons, List.length_nil]
    have := A.nb
    omega
  br := fun h => by
    obtain ⟨l, e1, e2⟩ := A.br h
    have := A.nb
    exact ⟨l, by rw [List.getElem?_append_left (by omega)]; exact e1, e2⟩
  br0 := A.br0
  kb := A.kb
  as := A.as
  cle := fun _ k => by
    rw [List.length_append, List.length_cons, List.length_nil, vl_new]
    exact val_rows S k
  bl := A.bl
  bfv := fun k => by
    have := A.nb
    rw [vl_app (by omega)]
    exact A.bfv k
/-- a letter comes to the biller -/
theorem J.come (A : J n c bf t m b S Ls As nw kn cl) {j : Nat} {l : LT} (hl : Ls[j]? = some l) : ∃ b', m_Biller_take b l = some (max nw l.1, b') ∧ J (n + 1) c bf t m b' S Ls (As ++ [max nw l.1]) (max nw l.1) kn cl := by
  have hj : j < Ls.length := (List.getElem?_eq_some_iff.mp hl).1
  have el := A.le.num j l hl
  have hb := A.bs
  have hnb := A.nb
  have hkb := A.kb
  have has : ∀ a ∈ As ++ [max nw l.1], 0 ≤ a ∧ a ≤ max nw l.1 := fun a ha => by
    rcases List.mem_append.mp ha with q | q
    · have := A.as a q; omega
    · simp at q; omega
  have hal : (As ++ [max nw l.1]).length ≤ n + 1 := by rw [List.length_append]; exact Nat.succ_le_succ A.al
  unfold m_Biller_take
  by_cases q : b.serial < l.1
  · rw [if_pos (decide_eq_true q), bsome]
    have em : max nw l.1 = l.1 := by omega
    rw [em] at has hal ⊢
    exact ⟨_, rfl, A.tp, A.su.mono, A.ms, A.le, Nat.le_succ_of_le A.ll, hal, A.ser, A.ans, A.wr, rfl, by omega, fun _ => ⟨l, by rw [el, show ((j : Int) + 1 - 1).toNat = j by omega]; exact hl, rfl⟩, fun h => by omega, by omega, has, A.cle, A.bl,
      fun k => Int.le_trans (A.bfv k) (A.le.mono _ _ k (by omega) (by omega))⟩
  · rw [if_neg (by simp only [decide_eq_true_eq]; exact q), bsome]
    have em : max nw l.1 = nw := by omega
    rw [em] at has hal ⊢
    exact ⟨b, by rw [hb], A.tp, A.su.mono, A.ms, A.le, Nat.le_succ_of_le A.ll, hal, A.ser, A.ans, A.wr, A.bs, A.nb, A.br, A.br0, A.kb, has, A.cle, A.bl, A.bfv⟩
/-- an answer comes to the meter -/
theorem J.ansd (A : J n c bf t m b S Ls As nw kn cl) {a : Int} (ha : a ∈ As) : J (n + 1) c bf t { m with answered := max m.answered a } b S Ls As nw (max kn a) cl := by
  have h := A.as a ha
  have hk := A.kb
  exact ⟨A.tp, A.su.mono, A.ms, A.le, Nat.le_succ_of_le A.ll, Nat.le_succ_of_le A.al, A.ser, by show max m.answered a = _; rw [A.ans], A.wr, A.bs, A.nb, A.br, A.br0, by omega, A.as, A.cle, A.bl, A.bfv⟩
/-- the bills -/
theorem J.bills (A : J n c bf t m b S Ls As nw kn cl) (hc : c ≤ 1000) : ∃ bf', m_l_bills b Ls nw S bf = some (true, b, Ls, S, bf') ∧ bf'.length ≤ c + 8 ∧ ∀ k, sv bf' k ≤ vl Ls nw.toNat k := by
  unfold m_l_bills
  have hnb := A.nb
  have key : ∀ (i : Nat) (x : Int) (s : List (I2 × Int)), (rangeI 0 (Int.toNat 4))[i]? = some x → (s.length ≤ c + 2 * i ∧ ∀ k, sv s k ≤ vl Ls nw.toNat k) → ∃ s', (thenR (foldB (fun (s_83 : (List ((Int × Int) × Int))) (l_way_84 : Int) =>
  (Option.bind (if (decide (0 < nw)) = true then
  (Option.bind (atI Ls (nw - 1)) fun x_107 =>
  (Option.bind (List.foldlM (fun (s_108 : Int) (l_row_109 : (T3 Int Int Int)) =>
  (Option.bind (if ((decide ((l_row_109.a : Int) = x)) && (decide ((l_row_109.b : Int) = l_way_84))) = true then
  (some l_row_109.c) else
  (some s_108)) fun s_111 =>
  (some s_111))) 0 ((x_107.2).l)) fun s_112 =>
  (some s_112))) else
  (some 0)) fun s_106 =>
  (Option.bind (m_Biller_bill b x l_way_84) fun v_113 =>
  (if ((!(decide ((v_113 : Int) = s_106))) || (false || (decide ((Option.getD (tGet S (((x : Int), (l_way_84 : Int)) : Int × Int)) 0) < v_113)))) = true then
  Option.map Sum.inl (some (false, b, Ls, S, s_83)) else
  (if (decide (v_113 < (Option.getD (tGet s_83 (((x : Int), (l_way_84 : Int)) : Int × Int)) 0))) = true then
  Option.map Sum.inl (some (false, b, Ls, S, s_83)) else
  (Option.bind (guardO (List.length s_83 < 1000000)) fun g_114 =>
  (some (Sum.inr (tPut s_83 (((x : Int), (l_way_84 : Int)) : Int × Int) v_113))))))))) (rangeI 0 (Int.toNat 2)) s) (fun s_115 =>
  (some (Sum.inr s_115) : Option ((Bool × M_Biller × (List (Int × (Tu (T3 Int Int Int)))) × (List ((Int × Int) × Int)) × (List ((Int × Int) × Int))) ⊕ (List ((Int × Int) × Int))))) Sum.inl) = some (.inr s') ∧ (s'.length ≤ c + 2 * (i + 1) ∧ ∀ k, sv s' k ≤ vl Ls nw.toNat k) := fun i x s hi hs => by
    have hi4 : i < 4 := by have := (List.getElem?_eq_some_iff.mp hi).1; rw [rangeI_len] at this; exact this
    refine Exists.imp (fun s' h => ⟨(thenR_r h.1).trans rfl, by have := h.2.1; rw [rangeI_len] at this; exact Nat.le_trans this (by show c + 2 * i + (0 + 2) ≤ _; omega), h.2.2⟩) (foldB_idx (fun j (s : List (I2 × Int)) => s.length ≤ c + 2 * i + j ∧ ∀ k, sv s k ≤ vl Ls nw.toNat k) (n := 0) hs fun j y s hj hs => ?_)
    have hj2 : j < 2 := by have := (List.getElem?_eq_some_iff.mp hj).1; rw [rangeI_len] at this; exact this
    have due : (if (decide (0 < nw)) = true then
  (Option.bind (atI Ls (nw - 1)) fun x_107 =>
  (Option.bind (List.foldlM (fun (s_108 : Int) (l_row_109 : (T3 Int Int Int)) =>
  (Option.bind (if ((decide ((l_row_109.a : Int) = x)) && (decide ((l_row_109.b : Int) = y))) = true then
  (some l_row_109.c) else
  (some s_108)) fun s_111 =>
  (some s_111))) 0 ((x_107.2).l)) fun s_112 =>
  (some s_112))) else
  (some 0)) = some (val b.rows.l (x, y)) := by
      by_cases q : 0 < nw
      · obtain ⟨l, e1, e2⟩ := A.br q
        rw [if_pos (decide_eq_true q), atI_nn (by omega), e1, bsome, due_eq x y l.2.l 0 (A.le.nd l (List.mem_of_getElem? e1)), bsome, e2]
        rfl
      · rw [if_neg (by simp only [decide_eq_true_eq]; exact q), A.br0 (by omega)]
        rfl
    have hv := A.valE (x, y)
    have h1 : val b.rows.l (x, y) ≤ sv S (x, y) := by
      rw [hv]
      exact Int.le_trans (A.le.mono _ _ _ (by omega) (Nat.le_refl _)) (A.le.top _)
    have h2 : sv s (x, y) ≤ val b.rows.l (x, y) := by rw [hv]; exact hs.2 _
    refine ⟨tPut s (x, y) (val b.rows.l (x, y)), ?_, ?_, fun k => ?_⟩
    · rw [due, bsome, bill_eq, bsome, if_neg, if_neg, guardO_some (by have := hs.1; omega), bsome]
      · simp only [decide_eq_true_eq]
        exact Int.not_lt.mpr h2
      · simp only [decide_true, Bool.not_true, Bool.false_or, decide_eq_true_eq]
        exact Int.not_lt.mpr h1
    · have := tlen_put s (x, y) (val b.rows.l (x, y))
      have := hs.1
      omega
    · rw [sv_put]
      split
      · rename_i e; rw [e, hv]; exact Int.le_refl _
      · exact hs.2 k
  obtain ⟨bf', e, h1, h2⟩ := foldB_idx (fun i (s : List (I2 × Int)) => s.length ≤ c + 2 * i ∧ ∀ k, sv s k ≤ vl Ls nw.toNat k) (n := 0) ⟨A.bl, A.bfv⟩ (fun i x s hi hs => by
    have := key i x s hi (by rw [Nat.zero_add] at hs; exact hs)
    rw [Nat.zero_add]
    exact this)
  refine ⟨bf', (thenR_r e).trans rfl, ?_, h2⟩
  rw [rangeI_len] at h1
  exact Nat.le_trans h1 (by show c + 2 * (0 + 4) ≤ _; omega)
end

theorem thenR_ex {γ β ω δ : Type} {m : Option (γ ⊕ β)} {k : β → Option (ω ⊕ δ)} {f : γ → ω ⊕ δ} (P : β → Prop) {Q : δ → Prop} (h : ∃ s, m = some (.inr s) ∧ P s) (hk : ∀ s, P s → ∃ r, k s = some (.inr r) ∧ Q r) : ∃ r, thenR m k f = some (.inr r) ∧ Q r := by
  obtain ⟨s, e, hs⟩ := h
  obtain ⟨r, e2, hr⟩ := hk s hs
  exact ⟨r, by rw [thenR_r e, e2], hr⟩
abbrev S9 := TP4 × M_Meter × M_Biller × (List ((Int × Int) × Int)) × (List LT) × (List Int) × Int × Int × Bool
def J9 (n c : Nat) (bf : List (I2 × Int)) (s : S9) : Prop := J n c bf s.1 s.2.1 s.2.2.1 s.2.2.2.1 s.2.2.2.2.1 s.2.2.2.2.2.1 s.2.2.2.2.2.2.1 s.2.2.2.2.2.2.2.1 s.2.2.2.2.2.2.2.2
def JJ (n : Nat) (s : TP4 × M_Meter × M_Biller × (List ((Int × Int) × Int)) × (List LT) × (List Int) × Int × Int × Bool × (List ((Int × Int) × Int))) : Prop :=
  J n (8 * n) s.2.2.2.2.2.2.2.2.2 s.1 s.2.1 s.2.2.1 s.2.2.2.1 s.2.2.2.2.1 s.2.2.2.2.2.1 s.2.2.2.2.2.2.1 s.2.2.2.2.2.2.2.1 s.2.2.2.2.2.2.2.2.1
theorem JJ.start {t : TP4} (h : 0 ≤ t.2.1) : JJ 0 (t, M_Meter.mk [] 0 none 0 true, M_Biller.mk 0 (Tu.mk []), [], [], [], 0, 0, true, []) :=
  ⟨h, Sums.nil, rfl, Lets.nil, Nat.le_refl _, Nat.le_refl _, rfl, rfl, rfl, rfl, ⟨Int.le_refl _, Int.le_refl _⟩, fun h => absurd h (Int.lt_irrefl 0), fun _ => rfl, ⟨Int.le_refl _, Int.le_refl _⟩, fun a h => by simp at h, fun _ k => rfl, Nat.le_refl _, fun k => Int.le_refl _⟩
theorem law_true (ns : List Int) (h : ns.length ≤ 63) : m_law ns = some true := by
  unfold m_law
  rw [show m_Meter___init__ = some (M_Meter.mk [] 0 none 0 true) from rfl, bsome, show m_Biller___init__ = some (M_Biller.mk 0 (Tu.mk [])) from rfl, bsome]
  rw [show m_Meter_last (M_Meter.mk [] 0 none 0 true) = some none from rfl, bsome]
  rw [show (if (!(Option.isNone (none : Option LT))) = true then some true else (Option.bind (m_Meter_is_settled (M_Meter.mk [] 0 none 0 true)) fun v_129 => (some (!(decide ((v_129 : Bool) = true)))))) = some false from rfl, bsome, if_neg (by decide)]
  obtain ⟨x0, t0, e0, hx0, ht0⟩ := next_some (ns, 0, 0, 7) 60 (Int.le_refl _) (by omega)
  rw [e0, bsome]
  dsimp only
  rw [guardO_some (by omega), bsome]
  refine thenR_idx JJ (JJ.start ht0) (fun i x s hx A => ?_) fun s A => ?_
  · have hi : i < 60 := by have := (List.getElem?_eq_some_iff.mp hx).1; rw [rangeI_len] at this; omega
    obtain ⟨t, m, b, S, Ls, As, nw, kn, cl, bf⟩ := s
    have A : J i (8 * i) bf t m b S Ls As nw kn cl := A
    dsimp only
    obtain ⟨kd, t1, e1, hk, ht1⟩ := next_some t 6 A.tp (by omega)
    rw [e1, bsome]
    dsimp only
    have A1 := A.tape ht1
    refine thenR_ex (J9 (i + 1) (8 * i) bf) ?_ fun s A => ?_
    · by_cases q1 : kd < 2
      · rw [if_pos (decide_eq_true q1)]
        obtain ⟨x, t2, e2, hx, ht2⟩ := next_some t1 4 ht1 (by omega)
        rw [e2, bsome]
        dsimp only
        obtain ⟨y, t3, e3, hy, ht3⟩ := next_some t2 2 ht2 (by omega)
        rw [e3, bsome]
        dsimp only
        obtain ⟨z, t4, e4, hz, ht4⟩ := next_some t3 196 ht3 (by omega)
        rw [e4, bsome]
        dsimp only
        obtain ⟨u, t5, e5, hu, ht5⟩ := next_some t4 20 ht4 (by omega)
        rw [e5, bsome]
        dsimp only
        obtain ⟨v, ev, hv⟩ : ∃ v, atI [(1 + z), 100000000000000000000] (if (decide ((u : Int) = 0)) = true then (1 : Int) else 0) = some v ∧ 0 ≤ v := by
          by_cases q : u = 0
          · rw [if_pos (decide_eq_true q)]
            exact ⟨100000000000000000000, rfl, by decide⟩
          · rw [if_neg (by simp only [decide_eq_true_eq]; exact q)]
            exact ⟨1 + z, rfl, by omega⟩
        rw [ev, bsome]
        have sl : S.length < 1000000 := by have := A.su.len; omega
        rw [show m_Meter_add m x y v = some { m with sums := tPut m.sums (x, y) (sv m.sums (x, y) + v), is_written := false } by
          unfold m_Meter_add
          rw [show m_Meter_metered m x y = some (sv m.sums (x, y)) from rfl, bsome, guardO_some (by rw [A.ms]; exact sl), bsome, lett_eq], bsome]
        rw [guardO_some sl, bsome, lett_eq]
        exact ⟨_, rfl, (A1.tape ht5).add hx hy hv⟩
      · rw [if_neg (by simp only [decide_eq_true_eq]; exact q1)]
        refine thenR_ex (fun s => J9 (i + 1) (8 * i) bf (s.1, s.2.1, s.2.2.1, S, s.2.2.2.1, s.2.2.2.2.1, s.2.2.2.2.2.1, s.2.2.2.2.2.2.1, s.2.2.2.2.2.2.2)) ?_ fun s A => ⟨_, rfl, A⟩
        by_cases q2 : kd = 2
        · rw [if_pos (decide_eq_true q2)]
          rw [Sums.write (n := i) (by rw [A.ms]; exact A.su) (by omega), bsome]
          dsimp only
          rw [A.su.rows_some (by omega)]
          rw [show m_Meter_last { m with serial := m.serial + 1, letter := some (m.serial + 1, Tu.mk (rows m.sums)), is_written := true } = some (some (m.serial + 1, Tu.mk (rows m.sums))) from rfl]
          have B := A1.write
          rw [if_neg (by decide), bsome, bsome]
          rw [A.ms, A.ser] at B ⊢
          rw [show orO (some (!(decide ((((Ls.length : Int) + 1, Tu.mk (rows S)) : (Int × (Tu (T3 Int Int Int)))) = (((((List.length Ls : Nat) : Int) + 1) : Int), ((Tu.mk (rows S)) : (Tu (T3 Int Int Int)))))))) (some (!(decide (((some ((Ls.length : Int) + 1, Tu.mk (rows S))) : (Option (Int × (Tu (T3 Int Int Int))))) = (some ((Ls.length : Int) + 1, Tu.mk (rows S))))))) = some false by simp [orO], bsome, if_neg (by decide), guardO_some (by have := A.ll; omega), bsome]
          exact ⟨_, rfl, B⟩
        · rw [if_neg (by simp only [decide_eq_true_eq]; exact q2)]
          refine thenR_ex (fun s => J9 (i + 1) (8 * i) bf (s.1, s.2.1, s.2.2.1, S, Ls, s.2.2.2.1, s.2.2.2.2.1, s.2.2.2.2.2, cl)) ?_ fun s A => ⟨_, rfl, A⟩
          by_cases q3 : ((decide (kd < 5)) && (!(decide ((Ls : (List (Int × (Tu (T3 Int Int Int))))) = [])))) = true
          · rw [if_pos q3]
            have hL : Ls ≠ [] := by
              simp only [Bool.and_eq_true, Bool.not_eq_true', decide_eq_false_iff_not] at q3
              exact q3.2
            have hl : 0 < Ls.length := List.length_pos_iff.mpr hL
            obtain ⟨v, t2, e2, hv, ht2⟩ := next_some t1 4 ht1 (by omega)
            rw [e2, bsome]
            dsimp only
            have hll := A.ll
            obtain ⟨w, t3, e3, hw, ht3⟩ := next_some t2 (min ((List.length Ls : Nat) : Int) (1 + v)) ht2 (by omega)
            rw [e3, bsome]
            dsimp only
            have hj : ((-1) - w + (Ls.length : Int)).toNat < Ls.length := by omega
            have ea : atI Ls ((-1) - w) = some (Ls[((-1) - w + (Ls.length : Int)).toNat]) := by
              unfold atI ixN
              rw [if_neg (by omega), if_pos (by omega)]
              show Ls[((-1) - w + (Ls.length : Int)).toNat]? = _
              exact List.getElem?_eq_getElem hj
            rw [ea, bsome, lett_eq]
            obtain ⟨b', eb, B⟩ := (A1.tape ht3).come (List.getElem?_eq_getElem hj)
            rw [eb, bsome]
            rw [if_neg (by simp), guardO_some (by have := A.al; omega), bsome]
            exact ⟨_, rfl, B⟩
          · rw [if_neg q3]
            by_cases q4 : ((decide ((kd : Int) = 5)) && (!(decide ((As : (List Int)) = [])))) = true
            · rw [if_pos q4]
              have hL : As ≠ [] := by
                simp only [Bool.and_eq_true, Bool.not_eq_true', decide_eq_false_iff_not] at q4
                exact q4.2
              have hl : 0 < As.length := List.length_pos_iff.mpr hL
              have hal := A.al
              obtain ⟨v, t2, e2, hv, ht2⟩ := next_some t1 ((List.length As : Nat) : Int) ht1 (by omega)
              rw [e2, bsome]
              dsimp only
              obtain ⟨a, ea, ha⟩ := atI_lt hv.1 hv.2
              rw [ea, bsome, lett_eq, show m_Meter_take m a = some { m with answered := max m.answered a } from rfl, bsome, bsome]
              exact ⟨_, rfl, (A1.tape ht2).ansd ha⟩
            · rw [if_neg q4, bsome]
              exact ⟨_, rfl, A1.up⟩
    · obtain ⟨t, m, b, S, Ls, As, nw, kn, cl⟩ := s
      have A : J (i + 1) (8 * i) bf t m b S Ls As nw kn cl := A
      dsimp only
      have hb := A.nb
      have hkb := A.kb
      have es : m_Meter_is_settled m = some (cl && decide (kn = (Ls.length : Int))) := by
        unfold m_Meter_is_settled
        rw [A.wr, A.ser, A.ans, show decide ((Ls.length : Int) ≤ kn) = decide (kn = (Ls.length : Int)) from decide_eq_decide.mpr (by omega)]
      rw [es, bsome, if_neg (by simp)]
      obtain ⟨bf', eb, h1, h2⟩ := A.bills (by omega)
      rw [eb, bsome]
      dsimp only
      rw [if_neg (by decide)]
      refine ⟨_, thenR_r (foldB_unit fun k hk => ?_), A.tp, A.su, A.ms, A.le, A.ll, A.al, A.ser, A.ans, A.wr, A.bs, A.nb, A.br, A.br0, A.kb, A.as, A.cle, h1, h2⟩
      obtain ⟨d, ed⟩ := Option.isSome_iff_exists.mp (tGet_mem.mpr hk)
      have sd : sv S k = d := by unfold sv; rw [ed]; rfl
      rw [show m_Meter_metered m k.1 k.2 = some d by
        show some (sv m.sums k) = some d
        rw [A.ms, sd], bsome, ed, bsome]
      rw [if_neg (by simp)]
      have ec : (if (cl && decide (kn = (Ls.length : Int))) = true then (Option.bind (m_Biller_bill b k.1 k.2) fun v_541 => (some (!(decide ((v_541 : Int) = d))))) else some false) = some false := by
        by_cases q : (cl && decide (kn = (Ls.length : Int))) = true
        · rw [if_pos q, bill_eq, bsome]
          simp only [Bool.and_eq_true, decide_eq_true_eq] at q
          have : val b.rows.l k = d := by
            rw [A.valE, show nw.toNat = Ls.length by omega, A.cle q.1, sd]
          rw [show ((k.1, k.2) : Int × Int) = k from rfl, this]
          simp
        · rw [if_neg q]
      rw [ec, bsome, bsome, if_neg (by decide)]
  · have A : J _ _ _ _ _ _ _ _ _ _ _ _ := A
    rw [show m_Meter_metered s.2.1 9 0 = some (sv s.2.1.sums (9, 0)) from rfl, bsome, A.ms]
    have : sv s.2.2.2.1 (9, 0) = 0 := by
      unfold sv
      cases e : tGet s.2.2.2.1 (9, 0) with
      | none => rfl
      | some d =>
        have := A.su.bd _ (tGet_mem.mp (by rw [e]; rfl))
        omega
    rw [this]
    rfl

set_option maxHeartbeats 0 in
theorem all_mk {l : PySem.W.OpenLaw} {w : World} {K : PySem.W.Frag} {h : Heap} {mg : Str → Option Value} {fa f0 f1 f2 f3 f4 f5 f6 f7 f8 f9 f10 f11 f12 f13 : Addr} (X : K.In h) (G : h.Ns mainGlobals mg) (hfa : mg "law" = some (.ref fa))
    {od0 an0 : Option Addr} {sl0 : Array (Option Value)} {oc0 kV0 dc0 pm0 cd0 ct0 : Value} {od1 an1 : Option Addr} {sl1 : Array (Option Value)} {oc1 kV1 dc1 pm1 cd1 ct1 : Value} {od2 an2 : Option Addr} {sl2 : Array (Option Value)} {oc2 kV2 dc2 pm2 cd2 ct2 : Value} {od3 an3 : Option Addr} {sl3 : Array (Option Value)} {oc3 kV3 dc3 pm3 cd3 ct3 : Value} {od4 an4 : Option Addr} {sl4 : Array (Option Value)} {oc4 kV4 dc4 pm4 cd4 ct4 : Value} {od5 an5 : Option Addr} {sl5 : Array (Option Value)} {oc5 kV5 dc5 pm5 cd5 ct5 : Value} {od6 an6 : Option Addr} {sl6 : Array (Option Value)} {oc6 kV6 dc6 pm6 cd6 ct6 : Value} {od7 an7 : Option Addr} {sl7 : Array (Option Value)} {oc7 kV7 dc7 pm7 cd7 ct7 : Value} {od8 an8 : Option Addr} {sl8 : Array (Option Value)} {oc8 kV8 dc8 pm8 cd8 ct8 : Value} {od9 an9 : Option Addr} {sl9 : Array (Option Value)} {oc9 kV9 dc9 pm9 cd9 ct9 : Value} {od10 an10 : Option Addr} {sl10 : Array (Option Value)} {oc10 kV10 dc10 pm10 cd10 ct10 : Value} {od11 an11 : Option Addr} {sl11 : Array (Option Value)} {oc11 kV11 dc11 pm11 cd11 ct11 : Value} {od12 an12 : Option Addr} {sl12 : Array (Option Value)} {oc12 kV12 dc12 pm12 cd12 ct12 : Value} {od13 an13 : Option Addr} {sl13 : Array (Option Value)} {oc13 kV13 dc13 pm13 cd13 ct13 : Value}
    {cl_Meter : Addr} (aC_Meter : PySem.W.nsIn K mainGlobals "Meter" = some (some (.ref cl_Meter))) (pg_Meter : PySem.W.plainGet K cl_Meter Str.empty = true) (hd_Meter : PySem.W.hasDictIn K cl_Meter = true) (po_Meter : PySem.W.plainOver K cl_Meter = true) (sa_Meter : PySem.W.findIn K (.ref cl_Meter) "__setattr__" = some (some (.builtin "object.__setattr__"))) (mk_Meter : PySem.W.makesIn K cl_Meter = true) (kc_Meter : PySem.W.keepIn K (.ref cl_Meter) = true)
    (na_Meter_sums : PySem.W.findIn K (.ref cl_Meter) "sums" = some none)
    (na_Meter_serial : PySem.W.findIn K (.ref cl_Meter) "serial" = some none)
    (na_Meter_letter : PySem.W.findIn K (.ref cl_Meter) "letter" = some none)
    (na_Meter_answered : PySem.W.findIn K (.ref cl_Meter) "answered" = some none)
    (na_Meter_is_written : PySem.W.findIn K (.ref cl_Meter) "is_written" = some none)
    {cl_Biller : Addr} (aC_Biller : PySem.W.nsIn K mainGlobals "Biller" = some (some (.ref cl_Biller))) (pg_Biller : PySem.W.plainGet K cl_Biller Str.empty = true) (hd_Biller : PySem.W.hasDictIn K cl_Biller = true) (po_Biller : PySem.W.plainOver K cl_Biller = true) (sa_Biller : PySem.W.findIn K (.ref cl_Biller) "__setattr__" = some (some (.builtin "object.__setattr__"))) (mk_Biller : PySem.W.makesIn K cl_Biller = true) (kc_Biller : PySem.W.keepIn K (.ref cl_Biller) = true)
    (na_Biller_serial : PySem.W.findIn K (.ref cl_Biller) "serial" = some none)
    (na_Biller_rows : PySem.W.findIn K (.ref cl_Biller) "rows" = some none)
    (a0 : PySem.W.findIn K (.ref cl_Meter) "__init__" = some (some (.ref f0))) (i0 : PySem.W.isFn K (.ref f0) = true) (l0 : K.lookup f0 = some ⟨oc0, od0, .func (PySem.W.fnOf "__init__" "Meter.__init__" (defArgs s_Meter___init__) (defBody s_Meter___init__) (defScope s_Meter___init__) .none kV0 dc0 pm0 an0 cd0 ct0), sl0⟩) (c0 : PySem.W.codeIn K cd0 "Meter.__init__" = true) (k0 : PySem.W.keepIn K (.ref f0) = true)
    (a1 : PySem.W.findIn K (.ref cl_Meter) "metered" = some (some (.ref f1))) (i1 : PySem.W.isFn K (.ref f1) = true) (l1 : K.lookup f1 = some ⟨oc1, od1, .func (PySem.W.fnOf "metered" "Meter.metered" (defArgs s_Meter_metered) (defBody s_Meter_metered) (defScope s_Meter_metered) .none kV1 dc1 pm1 an1 cd1 ct1), sl1⟩) (c1 : PySem.W.codeIn K cd1 "Meter.metered" = true) (k1 : PySem.W.keepIn K (.ref f1) = true)
    (a2 : PySem.W.findIn K (.ref cl_Meter) "add" = some (some (.ref f2))) (i2 : PySem.W.isFn K (.ref f2) = true) (l2 : K.lookup f2 = some ⟨oc2, od2, .func (PySem.W.fnOf "add" "Meter.add" (defArgs s_Meter_add) (defBody s_Meter_add) (defScope s_Meter_add) .none kV2 dc2 pm2 an2 cd2 ct2), sl2⟩) (c2 : PySem.W.codeIn K cd2 "Meter.add" = true) (k2 : PySem.W.keepIn K (.ref f2) = true)
    (a3 : PySem.W.findIn K (.ref cl_Meter) "write" = some (some (.ref f3))) (i3 : PySem.W.isFn K (.ref f3) = true) (l3 : K.lookup f3 = some ⟨oc3, od3, .func (PySem.W.fnOf "write" "Meter.write" (defArgs s_Meter_write) (defBody s_Meter_write) (defScope s_Meter_write) .none kV3 dc3 pm3 an3 cd3 ct3), sl3⟩) (c3 : PySem.W.codeIn K cd3 "Meter.write" = true) (k3 : PySem.W.keepIn K (.ref f3) = true)
    (a4 : PySem.W.findIn K (.ref cl_Meter) "last" = some (some (.ref f4))) (i4 : PySem.W.isFn K (.ref f4) = true) (l4 : K.lookup f4 = some ⟨oc4, od4, .func (PySem.W.fnOf "last" "Meter.last" (defArgs s_Meter_last) (defBody s_Meter_last) (defScope s_Meter_last) .none kV4 dc4 pm4 an4 cd4 ct4), sl4⟩) (c4 : PySem.W.codeIn K cd4 "Meter.last" = true) (k4 : PySem.W.keepIn K (.ref f4) = true)
    (a5 : PySem.W.findIn K (.ref cl_Meter) "take" = some (some (.ref f5))) (i5 : PySem.W.isFn K (.ref f5) = true) (l5 : K.lookup f5 = some ⟨oc5, od5, .func (PySem.W.fnOf "take" "Meter.take" (defArgs s_Meter_take) (defBody s_Meter_take) (defScope s_Meter_take) .none kV5 dc5 pm5 an5 cd5 ct5), sl5⟩) (c5 : PySem.W.codeIn K cd5 "Meter.take" = true) (k5 : PySem.W.keepIn K (.ref f5) = true)
    (a6 : PySem.W.findIn K (.ref cl_Meter) "is_settled" = some (some (.ref f6))) (i6 : PySem.W.isFn K (.ref f6) = true) (l6 : K.lookup f6 = some ⟨oc6, od6, .func (PySem.W.fnOf "is_settled" "Meter.is_settled" (defArgs s_Meter_is_settled) (defBody s_Meter_is_settled) (defScope s_Meter_is_settled) .none kV6 dc6 pm6 an6 cd6 ct6), sl6⟩) (c6 : PySem.W.codeIn K cd6 "Meter.is_settled" = true) (k6 : PySem.W.keepIn K (.ref f6) = true)
    (a7 : PySem.W.findIn K (.ref cl_Biller) "__init__" = some (some (.ref f7))) (i7 : PySem.W.isFn K (.ref f7) = true) (l7 : K.lookup f7 = some ⟨oc7, od7, .func (PySem.W.fnOf "__init__" "Biller.__init__" (defArgs s_Biller___init__) (defBody s_Biller___init__) (defScope s_Biller___init__) .none kV7 dc7 pm7 an7 cd7 ct7), sl7⟩) (c7 : PySem.W.codeIn K cd7 "Biller.__init__" = true) (k7 : PySem.W.keepIn K (.ref f7) = true)
    (a8 : PySem.W.findIn K (.ref cl_Biller) "take" = some (some (.ref f8))) (i8 : PySem.W.isFn K (.ref f8) = true) (l8 : K.lookup f8 = some ⟨oc8, od8, .func (PySem.W.fnOf "take" "Biller.take" (defArgs s_Biller_take) (defBody s_Biller_take) (defScope s_Biller_take) .none kV8 dc8 pm8 an8 cd8 ct8), sl8⟩) (c8 : PySem.W.codeIn K cd8 "Biller.take" = true) (k8 : PySem.W.keepIn K (.ref f8) = true)
    (a9 : PySem.W.findIn K (.ref cl_Biller) "bill" = some (some (.ref f9))) (i9 : PySem.W.isFn K (.ref f9) = true) (l9 : K.lookup f9 = some ⟨oc9, od9, .func (PySem.W.fnOf "bill" "Biller.bill" (defArgs s_Biller_bill) (defBody s_Biller_bill) (defScope s_Biller_bill) .none kV9 dc9 pm9 an9 cd9 ct9), sl9⟩) (c9 : PySem.W.codeIn K cd9 "Biller.bill" = true) (k9 : PySem.W.keepIn K (.ref f9) = true)
    (a10 : PySem.W.nsIn K mainGlobals "_law_next" = some (some (.ref f10))) (l10 : K.lookup f10 = some ⟨oc10, od10, .func (PySem.W.fnOf "_law_next" "_law_next" (defArgs s_l_next) (defBody s_l_next) (defScope s_l_next) .none kV10 dc10 pm10 an10 cd10 ct10), sl10⟩) (c10 : PySem.W.codeIn K cd10 "_law_next" = true) (k10 : PySem.W.keepIn K (.ref f10) = true)
    (a11 : PySem.W.nsIn K mainGlobals "_law_rows" = some (some (.ref f11))) (l11 : K.lookup f11 = some ⟨oc11, od11, .func (PySem.W.fnOf "_law_rows" "_law_rows" (defArgs s_l_rows) (defBody s_l_rows) (defScope s_l_rows) .none kV11 dc11 pm11 an11 cd11 ct11), sl11⟩) (c11 : PySem.W.codeIn K cd11 "_law_rows" = true) (k11 : PySem.W.keepIn K (.ref f11) = true)
    (a12 : PySem.W.nsIn K mainGlobals "_law_bills" = some (some (.ref f12))) (l12 : K.lookup f12 = some ⟨oc12, od12, .func (PySem.W.fnOf "_law_bills" "_law_bills" (defArgs s_l_bills) (defBody s_l_bills) (defScope s_l_bills) .none kV12 dc12 pm12 an12 cd12 ct12), sl12⟩) (c12 : PySem.W.codeIn K cd12 "_law_bills" = true) (k12 : PySem.W.keepIn K (.ref f12) = true)
    (a13 : PySem.W.nsIn K mainGlobals "law" = some (some (.ref f13))) (l13 : K.lookup f13 = some ⟨oc13, od13, .func (PySem.W.fnOf "law" "law" (defArgs s_law) (defBody s_law) (defScope s_law) .none kV13 dc13 pm13 an13 cd13 ct13), sl13⟩) (c13 : PySem.W.codeIn K cd13 "law" = true) (k13 : PySem.W.keepIn K (.ref f13) = true)
    (z0 : PySem.W.nsIn K mainGlobals "abs" = some none)
    (z1 : PySem.W.nsIn K mainGlobals "bool" = some none)
    (z2 : PySem.W.nsIn K mainGlobals "int" = some none)
    (z3 : PySem.W.nsIn K mainGlobals "isinstance" = some none)
    (z4 : PySem.W.nsIn K mainGlobals "len" = some none)
    (z5 : PySem.W.nsIn K mainGlobals "list" = some none)
    (z6 : PySem.W.nsIn K mainGlobals "max" = some none)
    (z7 : PySem.W.nsIn K mainGlobals "min" = some none)
    (z8 : PySem.W.nsIn K mainGlobals "range" = some none)
    (z9 : PySem.W.nsIn K mainGlobals "sorted" = some none)
    (z10 : PySem.W.nsIn K mainGlobals "tuple" = some none)
    : ∃ fd : FuncData, (∀ (s : Shared) (v : Value), BindsTo s fd ⟨[v], []⟩ [("_law_script", v)]) ∧ ∀ base : Heap, K.In base → base.Ns mainGlobals mg → FnOk l.prog w K mg base CX0 3 fa fd ["_law_script"] (sp_law K (CLs.mk 0 0)) := by
  have e := hfa.symm.trans (PySem.W.mg_of X G a13)
  cases e
  have T_Meter : CF_Meter K cl_Meter := ⟨⟨pg_Meter, hd_Meter, po_Meter, sa_Meter⟩, na_Meter_sums, na_Meter_serial, na_Meter_letter, na_Meter_answered, na_Meter_is_written⟩
  have T_Biller : CF_Biller K cl_Biller := ⟨⟨pg_Biller, hd_Biller, po_Biller, sa_Biller⟩, na_Biller_serial, na_Biller_rows⟩
  have HX : HXs K mg (CLs.mk cl_Meter cl_Biller) := ⟨T_Meter, T_Biller⟩
  have F0 := fun_mk (st := s_Meter___init__) l0 c0 k0
  have F1 := fun_mk (st := s_Meter_metered) l1 c1 k1
  have F2 := fun_mk (st := s_Meter_add) l2 c2 k2
  have F3 := fun_mk (st := s_Meter_write) l3 c3 k3
  have F4 := fun_mk (st := s_Meter_last) l4 c4 k4
  have F5 := fun_mk (st := s_Meter_take) l5 c5 k5
  have F6 := fun_mk (st := s_Meter_is_settled) l6 c6 k6
  have F7 := fun_mk (st := s_Biller___init__) l7 c7 k7
  have F8 := fun_mk (st := s_Biller_take) l8 c8 k8
  have F9 := fun_mk (st := s_Biller_bill) l9 c9 k9
  have F10 := fun_mk (st := s_l_next) l10 c10 k10
  have F11 := fun_mk (st := s_l_rows) l11 c11 k11
  have F12 := fun_mk (st := s_l_bills) l12 c12 k12
  have F13 := fun_mk (st := s_law) l13 c13 k13
  have m_abs := PySem.W.mg_none_of X G z0
  have m_bool := PySem.W.mg_none_of X G z1
  have m_int := PySem.W.mg_none_of X G z2
  have m_isinstance := PySem.W.mg_none_of X G z3
  have m_len := PySem.W.mg_none_of X G z4
  have m_list := PySem.W.mg_none_of X G z5
  have m_max := PySem.W.mg_none_of X G z6
  have m_min := PySem.W.mg_none_of X G z7
  have m_range := PySem.W.mg_none_of X G z8
  have m_sorted := PySem.W.mg_none_of X G z9
  have m_tuple := PySem.W.mg_none_of X G z10
  refine ⟨PySem.W.fnOf "law" "law" (defArgs s_law) (defBody s_law) (defScope s_law) .none kV13 dc13 pm13 an13 cd13 ct13, fun s v => .of_eq rfl, fun base _ _ => ?_⟩
  have c_Meter___init__ : CalC l.prog w K mg base 1 cl_Meter "Meter" (sp_Meter___init__ K (CLs.mk cl_Meter cl_Biller)) := ⟨f0, _, _, ok_Meter___init__ F0 HX, PySem.W.mg_of X G aC_Meter, ⟨mk_Meter, a0, i0, kc_Meter⟩, F0.binds (ps := ["self"]) fun _ _ _ _ _ _ us hl => match us, hl with | [_], _ => rfl⟩
  have c_Meter_metered : CalM l.prog w K mg base 1 cl_Meter "metered" (sp_Meter_metered K (CLs.mk cl_Meter cl_Biller)) := ⟨f1, _, _, ok_Meter_metered F1 HX, ⟨a1, i1, k1⟩, F1.binds (ps := ["self", "bearer", "way"]) fun _ _ _ _ _ _ us hl => match us, hl with | [_, _, _], _ => rfl⟩
  have c_Meter_add : CalM l.prog w K mg base 2 cl_Meter "add" (sp_Meter_add K (CLs.mk cl_Meter cl_Biller)) := ⟨f2, _, _, ok_Meter_add F2 HX c_Meter_metered, ⟨a2, i2, k2⟩, F2.binds (ps := ["self", "bearer", "way", "size"]) fun _ _ _ _ _ _ us hl => match us, hl with | [_, _, _, _], _ => rfl⟩
  have c_Meter_write : CalM l.prog w K mg base 1 cl_Meter "write" (sp_Meter_write K (CLs.mk cl_Meter cl_Biller)) := ⟨f3, _, _, ok_Meter_write F3 HX m_sorted m_tuple, ⟨a3, i3, k3⟩, F3.binds (ps := ["self"]) fun _ _ _ _ _ _ us hl => match us, hl with | [_], _ => rfl⟩
  have c_Meter_last : CalM l.prog w K mg base 1 cl_Meter "last" (sp_Meter_last K (CLs.mk cl_Meter cl_Biller)) := ⟨f4, _, _, ok_Meter_last F4 HX, ⟨a4, i4, k4⟩, F4.binds (ps := ["self"]) fun _ _ _ _ _ _ us hl => match us, hl with | [_], _ => rfl⟩
  have c_Meter_take : CalM l.prog w K mg base 1 cl_Meter "take" (sp_Meter_take K (CLs.mk cl_Meter cl_Biller)) := ⟨f5, _, _, ok_Meter_take F5 HX m_max, ⟨a5, i5, k5⟩, F5.binds (ps := ["self", "serial"]) fun _ _ _ _ _ _ us hl => match us, hl with | [_, _], _ => rfl⟩
  have c_Meter_is_settled : CalM l.prog w K mg base 1 cl_Meter "is_settled" (sp_Meter_is_settled K (CLs.mk cl_Meter cl_Biller)) := ⟨f6, _, _, ok_Meter_is_settled F6 HX, ⟨a6, i6, k6⟩, F6.binds (ps := ["self"]) fun _ _ _ _ _ _ us hl => match us, hl with | [_], _ => rfl⟩
  have c_Biller___init__ : CalC l.prog w K mg base 1 cl_Biller "Biller" (sp_Biller___init__ K (CLs.mk cl_Meter cl_Biller)) := ⟨f7, _, _, ok_Biller___init__ F7 HX, PySem.W.mg_of X G aC_Biller, ⟨mk_Biller, a7, i7, kc_Biller⟩, F7.binds (ps := ["self"]) fun _ _ _ _ _ _ us hl => match us, hl with | [_], _ => rfl⟩
  have c_Biller_take : CalM l.prog w K mg base 1 cl_Biller "take" (sp_Biller_take K (CLs.mk cl_Meter cl_Biller)) := ⟨f8, _, _, ok_Biller_take F8 HX, ⟨a8, i8, k8⟩, F8.binds (ps := ["self", "letter"]) fun _ _ _ _ _ _ us hl => match us, hl with | [_, _], _ => rfl⟩
  have c_Biller_bill : CalM l.prog w K mg base 1 cl_Biller "bill" (sp_Biller_bill K (CLs.mk cl_Meter cl_Biller)) := ⟨f9, _, _, ok_Biller_bill F9 HX, ⟨a9, i9, k9⟩, F9.binds (ps := ["self", "bearer", "way"]) fun _ _ _ _ _ _ us hl => match us, hl with | [_, _, _], _ => rfl⟩
  have c_l_next : Cal l.prog w K mg base 1 "_law_next" (sp_l_next K (CLs.mk cl_Meter cl_Biller)) := ⟨f10, _, _, ok_l_next F10 HX m_abs m_int m_len, PySem.W.mg_of X G a10, k10, F10.binds (ps := ["_law_tape", "_law_many"]) fun _ _ _ _ _ _ us hl => match us, hl with | [_, _], _ => rfl⟩
  have c_l_rows : Cal l.prog w K mg base 1 "_law_rows" (sp_l_rows K (CLs.mk cl_Meter cl_Biller)) := ⟨f11, _, _, ok_l_rows F11 HX m_list m_sorted m_tuple, PySem.W.mg_of X G a11, k11, F11.binds (ps := ["_law_sums"]) fun _ _ _ _ _ _ us hl => match us, hl with | [_], _ => rfl⟩
  have c_l_bills : Cal l.prog w K mg base 2 "_law_bills" (sp_l_bills K (CLs.mk cl_Meter cl_Biller)) := ⟨f12, _, _, ok_l_bills F12 HX m_bool m_isinstance m_range c_Biller_bill, PySem.W.mg_of X G a12, k12, F12.binds (ps := ["_law_biller", "_law_letters", "_law_newest", "_law_sums", "_law_before"]) fun _ _ _ _ _ _ us hl => match us, hl with | [_, _, _, _, _], _ => rfl⟩
  have q_law := ok_law (P := l.prog) (w := w) (base := base) F13 HX m_bool m_int m_isinstance m_len m_list m_max m_min m_range m_tuple c_Biller___init__ c_Biller_bill c_Biller_take c_Meter___init__ c_Meter_add c_Meter_is_settled c_Meter_last c_Meter_metered c_Meter_take c_Meter_write c_l_bills c_l_next c_l_rows
  exact q_law
end MyLaw
open PySem PySem.W PyProof.Rows
set_option maxHeartbeats 0 in
theorem PySem.Challenge.cw_bearerwise_k39_bills_holds : PySem.Challenge.rw_bearerwise_k39_bills.Holds := by
  w_on; o_law; k_head; (case hw => w_witness2)
  k_fill
  refine L2.walk_of (l := PySem.Challenge.rw_bearerwise_k39_bills) (n := 63) (k := 3) (x := "_law_script") (CX := fun _ => L2.CX0) (sp := fun w => MyLaw.sp_law _ (MyLaw.CLs.mk 0 0)) rfl (by decide) rfl ⟨rfl, by decide, by decide⟩ (fun w h Y => PySem.W.kIn_of Y) ?F (fun w H a ns hl hO hS => Mr.law_sp hl hS (MyLaw.law_true ns hl)) (fun _ _ _ _ _ h => h)
  case F =>
    intro w mg fa h KX G hmg
    refine' MyLaw.all_mk KX G hmg ?aC_Meter ?pg_Meter ?hd_Meter ?po_Meter ?sa_Meter ?mk_Meter ?kc_Meter ?na_Meter_sums ?na_Meter_serial ?na_Meter_letter ?na_Meter_answered ?na_Meter_is_written ?aC_Biller ?pg_Biller ?hd_Biller ?po_Biller ?sa_Biller ?mk_Biller ?kc_Biller ?na_Biller_serial ?na_Biller_rows ?a0 ?i0 ?l0 ?c0 ?k0 ?a1 ?i1 ?l1 ?c1 ?k1 ?a2 ?i2 ?l2 ?c2 ?k2 ?a3 ?i3 ?l3 ?c3 ?k3 ?a4 ?i4 ?l4 ?c4 ?k4 ?a5 ?i5 ?l5 ?c5 ?k5 ?a6 ?i6 ?l6 ?c6 ?k6 ?a7 ?i7 ?l7 ?c7 ?k7 ?a8 ?i8 ?l8 ?c8 ?k8 ?a9 ?i9 ?l9 ?c9 ?k9 ?a10 ?l10 ?c10 ?k10 ?a11 ?l11 ?c11 ?k11 ?a12 ?l12 ?c12 ?k12 ?a13 ?l13 ?c13 ?k13 ?z0 ?z1 ?z2 ?z3 ?z4 ?z5 ?z6 ?z7 ?z8 ?z9 ?z10
    (case aC_Meter => k_is); (case pg_Meter => k_is); (case hd_Meter => k_is); (case po_Meter => k_is); (case sa_Meter => k_is); (case mk_Meter => k_is); (case kc_Meter => k_is); (case na_Meter_sums => k_is); (case na_Meter_serial => k_is); (case na_Meter_letter => k_is); (case na_Meter_answered => k_is); (case na_Meter_is_written => k_is); (case aC_Biller => k_is); (case pg_Biller => k_is); (case hd_Biller => k_is); (case po_Biller => k_is); (case sa_Biller => k_is); (case mk_Biller => k_is); (case kc_Biller => k_is); (case na_Biller_serial => k_is); (case na_Biller_rows => k_is); (case a0 => k_is); (case i0 => k_is); (case l0 => k_is); (case c0 => k_is); (case k0 => k_is); (case a1 => k_is); (case i1 => k_is); (case l1 => k_is); (case c1 => k_is); (case k1 => k_is); (case a2 => k_is); (case i2 => k_is); (case l2 => k_is); (case c2 => k_is); (case k2 => k_is); (case a3 => k_is); (case i3 => k_is); (case l3 => k_is); (case c3 => k_is); (case k3 => k_is); (case a4 => k_is); (case i4 => k_is); (case l4 => k_is); (case c4 => k_is); (case k4 => k_is); (case a5 => k_is); (case i5 => k_is); (case l5 => k_is); (case c5 => k_is); (case k5 => k_is); (case a6 => k_is); (case i6 => k_is); (case l6 => k_is); (case c6 => k_is); (case k6 => k_is); (case a7 => k_is); (case i7 => k_is); (case l7 => k_is); (case c7 => k_is); (case k7 => k_is); (case a8 => k_is); (case i8 => k_is); (case l8 => k_is); (case c8 => k_is); (case k8 => k_is); (case a9 => k_is); (case i9 => k_is); (case l9 => k_is); (case c9 => k_is); (case k9 => k_is); (case a10 => k_is); (case l10 => k_is); (case c10 => k_is); (case k10 => k_is); (case a11 => k_is); (case l11 => k_is); (case c11 => k_is); (case k11 => k_is); (case a12 => k_is); (case l12 => k_is); (case c12 => k_is); (case k12 => k_is); (case a13 => k_is); (case l13 => k_is); (case c13 => k_is); (case k13 => k_is); (case z0 => k_is); (case z1 => k_is); (case z2 => k_is); (case z3 => k_is); (case z4 => k_is); (case z5 => k_is); (case z6 => k_is); (case z7 => k_is); (case z8 => k_is); (case z9 => k_is); (case z10 => k_is)
