import PyProof.Rows.All
import HandS.ForMost
import HandS.AnyAll
import HandS.IsInst
import HandS.TupAny
import HandS.Conv
import HandS.Wide
import HandS.WideBits
import HandS.Flow
import HandS.Style
import HandS.Codes
import HandS.Zip
import HandS.Rev
import HandS.Deep
import KE.SortData
import KE.DataMinMax
import KE.DataIsa
import KE.GoesMore
import KE.DataFind
import KE.KIndexOf
import HandS.SetFor
import HandS.StrMore
import HandS.Strs
import HandS.MapJoin
import HandS.GenBody
import PyProof.SumAny
import HandS.TupSets
import HandS.Gcd
import HandS.EndOwn
import HandS.ForExc
import HandS.ExcIs
import HandS.RaiseMore
import PySem.Challenge.RW_backtohand_k65_ratios_and_scales
set_option Elab.async false
set_option linter.all false
set_option maxRecDepth 100000
/-! a layer of plain data over the hand layer: what a value stands for, what is shared, what is owned -/
namespace O
open PySem PySem.Spec PyProof.Rows L2

abbrev D := PyData
/-- how a value is held: shared, borrowed (read only), an owned list with items held so -/
inductive Md where
  | sh | bo | bx | ow (m : Md)
  deriving DecidableEq, Repr

/-- what stays the same through a def: the written part, the tables, what is borrowed -/
structure Gh where
  K : PySem.W.Frag
  T : List Addr
  B : Hp

def Sub (G H : Hp) : Prop := ∀ a o, G a = some o → H a = some o
theorem Sub.refl (G : Hp) : Sub G G := fun _ _ h => h
theorem Sub.trans {G H J : Hp} (a : Sub G H) (b : Sub H J) : Sub G J := fun x o h => b x o (a x o h)
theorem Sub.upd {H : Hp} {p : Addr} {o : HO} (h : H p = none) : Sub H (upd H p o) := fun a x e => by rw [upd_ne (ne_of_none e h)]; exact e
def un (G B : Hp) : Hp := fun a => match G a with
  | some o => some o
  | none => B a
theorem Sub.un_l (G B : Hp) : Sub G (un G B) := fun a o e => by unfold un; rw [e]
theorem Sub.un {G G' B : Hp} (h : Sub G G') {H : Hp} (s : Sub G' H) (b : Sub B H) : Sub (un G B) (un G' B) := fun a o e => by
  unfold O.un at e ⊢
  cases q : G a with
  | some u => rw [q] at e; cases e; rw [h a _ q]
  | none =>
    rw [q] at e
    cases r : G' a with
    | none => exact e
    | some u =>
      have h1 := s a u r
      rw [b a o e] at h1
      exact h1.symm
theorem Sub.of_un {G B H : Hp} (s : Sub G H) (b : Sub B H) : Sub (O.un G B) H := fun a o e => by
  unfold O.un at e
  cases q : G a with
  | some u => rw [q] at e; cases e; exact s a _ q
  | none => rw [q] at e; exact b a o e

theorem Rd.sub {G H : Hp} (s : Sub G H) {a : Addr} {u : HO} (r : Rd G a u) : Rd H a u := by
  rcases r with r | ⟨o, r⟩
  · exact .inl (s a _ r)
  · exact .inr ⟨o, s a _ r⟩
theorem SqL.sub {K : PySem.W.Frag} {G H : Hp} (s : Sub G H) {a : Addr} {xs : List V} (r : SqL K G a xs) : SqL K H a xs := by
  rcases r with r | r
  · exact .inl (Rd.sub s r)
  · exact .inr r
theorem SqT.sub {K : PySem.W.Frag} {G H : Hp} (s : Sub G H) {a : Addr} {xs : List V} (r : SqT K G a xs) : SqT K H a xs := by
  rcases r with r | r
  · exact .inl (Rd.sub s r)
  · exact .inr r
/-! data that stands for all: lists are tracked (neither the script nor of the written part) -/
mutual
inductive Dq (K : PySem.W.Frag) (G : Hp) : V → D → Prop
  | non : Dq K G .non .none
  | bl (b : Bool) : Dq K G (.bl b) (.bool b)
  | int (i : Int) : Dq K G (.int i) (.int i)
  | str (x : Str) : Dq K G (.str x) (.str x)
  | lst {a : Addr} {xs : List V} {ds : List D} : G a = some (.lst xs) → DqAll K G xs ds → Dq K G (.ref a) (.list ds)
  | tup {a : Addr} {xs : List V} {ds : List D} : SqT K G a xs → DqAll K G xs ds → Dq K G (.ref a) (.tuple ds)
inductive DqAll (K : PySem.W.Frag) (G : Hp) : List V → List D → Prop
  | nil : DqAll K G [] []
  | cons {v : V} {vs : List V} {d : D} {ds : List D} : Dq K G v d → DqAll K G vs ds → DqAll K G (v :: vs) (d :: ds)
end
mutual
theorem Dq.sub {K : PySem.W.Frag} {G H : Hp} (s : Sub G H) : ∀ (d : D) (v : V), Dq K G v d → Dq K H v d
  | .none, _, h => by cases h; exact .non
  | .bool b, _, h => by cases h; exact .bl b
  | .int i, _, h => by cases h; exact .int i
  | .str x, _, h => by cases h; exact .str x
  | .list ds, _, h => by cases h with | lst a b => exact .lst (s _ _ a) (Dq.subAll s ds _ b)
  | .tuple ds, _, h => by cases h with | tup a b => exact .tup (SqT.sub s a) (Dq.subAll s ds _ b)
  | .dict _, _, h => by cases h
theorem Dq.subAll {K : PySem.W.Frag} {G H : Hp} (s : Sub G H) : ∀ (ds : List D) (vs : List V), DqAll K G vs ds → DqAll K H vs ds
  | [], _, h => by cases h; exact .nil
  | d :: ds, _, h => by cases h with | cons a b => exact .cons (Dq.sub s d _ a) (Dq.subAll s ds _ b)
end
mutual
theorem Dq.dp {K : PySem.W.Frag} {G : Hp} : ∀ (d : D) (v : V), Dq K G v d → Dp K G v d
  | .none, _, h => by cases h; exact .non
  | .bool b, _, h => by cases h; exact .bl b
  | .int i, _, h => by cases h; exact .int i
  | .str x, _, h => by cases h; exact .str x
  | .list ds, _, h => by cases h with | lst a b => exact .lst (.inl (.inl a)) (Dq.dpAll ds _ b)
  | .tuple ds, _, h => by cases h with | tup a b => exact .tup a (Dq.dpAll ds _ b)
  | .dict _, _, h => by cases h
theorem Dq.dpAll {K : PySem.W.Frag} {G : Hp} : ∀ (ds : List D) (vs : List V), DqAll K G vs ds → DpAll K G vs ds
  | [], _, h => by cases h; exact .nil
  | d :: ds, _, h => by cases h with | cons a b => exact .cons (Dq.dp d _ a) (Dq.dpAll ds _ b)
end
theorem DqAll.length {K : PySem.W.Frag} {G : Hp} : ∀ {vs : List V} {ds : List D}, DqAll K G vs ds → vs.length = ds.length
  | _, _, .nil => rfl
  | _, _, .cons _ t => by rw [List.length_cons, List.length_cons, DqAll.length t]
theorem DqAll.get {K : PySem.W.Frag} {G : Hp} : ∀ {vs : List V} {ds : List D} {i : Nat} {d : D}, DqAll K G vs ds → ds[i]? = some d → ∃ v, vs[i]? = some v ∧ Dq K G v d
  | _, _, _, _, .nil, e => by simp at e
  | _, _, 0, _, .cons h _, e => by simp at e; subst e; exact ⟨_, rfl, h⟩
  | _, _, i + 1, _, .cons _ t, e => by
    obtain ⟨v, h1, h2⟩ := DqAll.get (i := i) t (by simpa using e)
    exact ⟨v, by simpa using h1, h2⟩
theorem DqAll.get' {K : PySem.W.Frag} {G : Hp} : ∀ {vs : List V} {ds : List D} {i : Nat} {v : V}, DqAll K G vs ds → vs[i]? = some v → ∃ d, ds[i]? = some d ∧ Dq K G v d
  | _, _, _, _, .nil, e => by simp at e
  | _, _, 0, _, .cons h _, e => by simp at e; subst e; exact ⟨_, rfl, h⟩
  | _, _, i + 1, _, .cons _ t, e => by
    obtain ⟨v, h1, h2⟩ := DqAll.get' (i := i) t (by simpa using e)
    exact ⟨v, by simpa using h1, h2⟩
theorem DqAll.app {K : PySem.W.Frag} {G : Hp} : ∀ {vs us : List V} {ds es : List D}, DqAll K G vs ds → DqAll K G us es → DqAll K G (vs ++ us) (ds ++ es)
  | _, _, _, _, .nil, s => s
  | _, _, _, _, .cons h t, s => .cons h (DqAll.app t s)
theorem DqAll.take {K : PySem.W.Frag} {G : Hp} : ∀ {vs : List V} {ds : List D} (n : Nat), DqAll K G vs ds → DqAll K G (vs.take n) (ds.take n)
  | _, _, 0, _ => by simp; exact .nil
  | _, _, _ + 1, .nil => .nil
  | _, _, n + 1, .cons h t => .cons h (DqAll.take n t)
theorem DqAll.drop {K : PySem.W.Frag} {G : Hp} : ∀ {vs : List V} {ds : List D} (n : Nat), DqAll K G vs ds → DqAll K G (vs.drop n) (ds.drop n)
  | _, _, 0, h => h
  | _, _, _ + 1, .nil => .nil
  | _, _, n + 1, .cons _ t => DqAll.drop n t
theorem DqAll.set {K : PySem.W.Frag} {G : Hp} {v : V} {d : D} (r : Dq K G v d) : ∀ {vs : List V} {ds : List D} (i : Nat), DqAll K G vs ds → DqAll K G (vs.set i v) (ds.set i d)
  | _, _, _, .nil => .nil
  | _, _, 0, .cons _ t => .cons r t
  | _, _, i + 1, .cons h t => .cons h (DqAll.set r i t)
theorem DqAll.rev {K : PySem.W.Frag} {G : Hp} : ∀ {vs : List V} {ds : List D}, DqAll K G vs ds → DqAll K G vs.reverse ds.reverse
  | _, _, .nil => .nil
  | _, _, .cons h t => by rw [List.reverse_cons, List.reverse_cons]; exact DqAll.app (DqAll.rev t) (.cons h .nil)
theorem DqAll.rep {K : PySem.W.Frag} {G : Hp} {v : V} {d : D} (h : Dq K G v d) : ∀ n : Nat, DqAll K G (List.replicate n v) (List.replicate n d)
  | 0 => .nil
  | n + 1 => .cons h (DqAll.rep h n)

/-! ### what is held, with its footprint -/
inductive Fa3 {α β γ : Type} (P : α → β → γ → Prop) : List α → List β → List γ → Prop
  | nil : Fa3 P [] [] []
  | cons {a b c as bs cs} : P a b c → Fa3 P as bs cs → Fa3 P (a :: as) (b :: bs) (c :: cs)
theorem Fa3.imp {α β γ : Type} {P Q : α → β → γ → Prop} (h : ∀ a b c, P a b c → Q a b c) : ∀ {as bs cs}, Fa3 P as bs cs → Fa3 Q as bs cs
  | _, _, _, .nil => .nil
  | _, _, _, .cons a t => .cons (h _ _ _ a) (Fa3.imp h t)

def Rep (c : Gh) (G H : Hp) : Md → V → D → List Addr → Prop
  | .sh, v, d, F => F = [] ∧ Dq c.K G v d
  | .bo, v, d, F => F = [] ∧ Dq c.K (un G c.B) v d
  | .bx, v, d, F => ∃ a b vs ws ds es, v = .ref a ∧ d = .list (.list es :: ds) ∧ H a = some (.lst (.ref b :: vs)) ∧ H b = some (.lst ws) ∧ DqAll c.K G vs ds ∧ DqAll c.K G ws es ∧ F = [a, b]
  | .ow m, v, d, F => ∃ a vs ds Fs, v = .ref a ∧ d = .list ds ∧ H a = some (.lst vs) ∧ Fa3 (Rep c G H m) vs ds Fs ∧ F = a :: Fs.flatten

abbrev T3 := Md × V × D
/-- the footprints of a row of held things -/
inductive Reps (c : Gh) (G H : Hp) : List T3 → List Addr → Prop
  | nil : Reps c G H [] []
  | cons {m v d L F E} : Rep c G H m v d F → Reps c G H L E → Reps c G H ((m, v, d) :: L) (F ++ E)

def Pu : HO → Prop
  | .lst _ => True
  | .tup _ => True
  | .frz _ _ => True
  | _ => False
structure Rel (c : Gh) (G H : Hp) (L : List T3) : Prop where
  sub : Sub G H
  subB : Sub c.B H
  pu : ∀ a o, un G c.B a = some o → Pu o
  tab : ∀ P ∈ c.T, GxR.TabG H P
  own : ∃ F, Reps c G H L F ∧ F.Nodup ∧ ∀ a ∈ F, G a = none ∧ c.B a = none

theorem Reps.perm {c : Gh} {G H : Hp} {L L' : List T3} (p : L.Perm L') : ∀ {F}, Reps c G H L F → ∃ F', Reps c G H L' F' ∧ F.Perm F' := by
  induction p with
  | nil => intro F h; exact ⟨F, h, .refl _⟩
  | cons x _ ih =>
    intro F h
    cases h with
    | cons a t =>
      obtain ⟨E', h1, h2⟩ := ih t
      exact ⟨_, .cons a h1, h2.append_left _⟩
  | swap x y l =>
    intro F h
    cases h with
    | cons a t =>
      cases t with
      | cons b t =>
        refine ⟨_, .cons b (.cons a t), ?_⟩
        rw [← List.append_assoc, ← List.append_assoc]
        exact List.perm_append_comm.append_right _
  | trans _ _ ih1 ih2 =>
    intro F h
    obtain ⟨F1, a1, p1⟩ := ih1 h
    obtain ⟨F2, a2, p2⟩ := ih2 a1
    exact ⟨F2, a2, p1.trans p2⟩
theorem Rel.perm {c : Gh} {G H : Hp} {L L' : List T3} (r : Rel c G H L) (p : L.Perm L') : Rel c G H L' := by
  obtain ⟨F, h, n, q⟩ := r.own
  obtain ⟨F', h', p'⟩ := Reps.perm p h
  exact ⟨r.sub, r.subB, r.pu, r.tab, F', h', p'.nodup n, fun a ha => q a (p'.mem_iff.mpr ha)⟩
theorem Rel.drop {c : Gh} {G H : Hp} {t : T3} {L : List T3} (r : Rel c G H (t :: L)) : Rel c G H L := by
  obtain ⟨F, h, n, q⟩ := r.own
  cases h with
  | cons a t => exact ⟨r.sub, r.subB, r.pu, r.tab, _, t, (List.nodup_append.mp n).2.1, fun a ha => q a (List.mem_append_right _ ha)⟩
theorem Rel.sh_of {c : Gh} {G H : Hp} {v : V} {d : D} {L : List T3} (r : Rel c G H ((.sh, v, d) :: L)) : Dq c.K G v d := by
  obtain ⟨F, h, n, q⟩ := r.own
  cases h with
  | cons a t => exact a.2
theorem Rel.bo_of {c : Gh} {G H : Hp} {v : V} {d : D} {L : List T3} (r : Rel c G H ((.bo, v, d) :: L)) : Dq c.K (un G c.B) v d := by
  obtain ⟨F, h, n, q⟩ := r.own
  cases h with
  | cons a t => exact a.2
theorem Rel.put_bo {c : Gh} {G H : Hp} {v : V} {d : D} {L : List T3} (r : Rel c G H L) (h : Dq c.K (un G c.B) v d) : Rel c G H ((.bo, v, d) :: L) := by
  obtain ⟨F, h', n, q⟩ := r.own
  exact ⟨r.sub, r.subB, r.pu, r.tab, [] ++ F, .cons ⟨rfl, h⟩ h', n, q⟩
theorem Rel.put_sh {c : Gh} {G H : Hp} {v : V} {d : D} {L : List T3} (r : Rel c G H L) (h : Dq c.K G v d) : Rel c G H ((.sh, v, d) :: L) := by
  obtain ⟨F, h', n, q⟩ := r.own
  exact ⟨r.sub, r.subB, r.pu, r.tab, [] ++ F, .cons ⟨rfl, h⟩ h', n, q⟩

/-- G grows by what is in no footprint -/
theorem Rep.grow {c : Gh} {G G' H : Hp} (s : Sub G G') (s2 : Sub G' H) (b : Sub c.B H) : ∀ {m : Md} {v : V} {d : D} {F : List Addr}, Rep c G H m v d F → Rep c G' H m v d F := by
  intro m
  induction m with
  | sh => intro v d F h; exact ⟨h.1, Dq.sub s _ _ h.2⟩
  | bo => intro v d F h; exact ⟨h.1, Dq.sub (s.un s2 b) _ _ h.2⟩
  | bx =>
    intro v d F h
    obtain ⟨p, q, vs, ws, ds, es, h1, h2, h3, h4, h5, h6, h7⟩ := h
    exact ⟨p, q, vs, ws, ds, es, h1, h2, h3, h4, Dq.subAll s _ _ h5, Dq.subAll s _ _ h6, h7⟩
  | ow m ih =>
    intro v d F h
    obtain ⟨a, vs, ds, Fs, h1, h2, h3, h4, h5⟩ := h
    exact ⟨a, vs, ds, Fs, h1, h2, h3, h4.imp fun _ _ _ z => ih z, h5⟩
theorem Reps.grow {c : Gh} {G G' H : Hp} (s : Sub G G') (s2 : Sub G' H) (b : Sub c.B H) : ∀ {L : List T3} {F : List Addr}, Reps c G H L F → Reps c G' H L F
  | _, _, .nil => .nil
  | _, _, .cons a t => .cons (Rep.grow s s2 b a) (Reps.grow s s2 b t)
theorem Fa3.keep {c : Gh} {G H H' : Hp} {m : Md} (ih : ∀ {v : V} {d : D} {F : List Addr}, (∀ a ∈ F, H' a = H a) → Rep c G H m v d F → Rep c G H' m v d F) : ∀ {vs : List V} {ds : List D} {Fs : List (List Addr)}, (∀ a ∈ Fs.flatten, H' a = H a) → Fa3 (Rep c G H m) vs ds Fs → Fa3 (Rep c G H' m) vs ds Fs
  | _, _, _, _, .nil => .nil
  | _, _, _, k, .cons a t => .cons (ih (fun b hb => k b (by rw [List.flatten_cons]; exact List.mem_append_left _ hb)) a) (Fa3.keep ih (fun b hb => k b (by rw [List.flatten_cons]; exact List.mem_append_right _ hb)) t)
theorem Rep.keep {c : Gh} {G H H' : Hp} : ∀ {m : Md} {v : V} {d : D} {F : List Addr}, (∀ a ∈ F, H' a = H a) → Rep c G H m v d F → Rep c G H' m v d F := by
  intro m
  induction m with
  | sh => intro v d F _ h; exact h
  | bo => intro v d F _ h; exact h
  | bx =>
    intro v d F k h
    obtain ⟨p, q, vs, ws, ds, es, h1, h2, h3, h4, h5, h6, rfl⟩ := h
    exact ⟨p, q, vs, ws, ds, es, h1, h2, by rw [k p List.mem_cons_self]; exact h3, by rw [k q (List.mem_cons_of_mem _ List.mem_cons_self)]; exact h4, h5, h6, rfl⟩
  | ow m ih =>
    intro v d F k h
    obtain ⟨a, vs, ds, Fs, h1, h2, h3, h4, rfl⟩ := h
    exact ⟨a, vs, ds, Fs, h1, h2, by rw [k a List.mem_cons_self]; exact h3, Fa3.keep ih (fun b hb => k b (List.mem_cons_of_mem _ hb)) h4, rfl⟩
theorem Reps.keep {c : Gh} {G H H' : Hp} : ∀ {L : List T3} {F : List Addr}, (∀ a ∈ F, H' a = H a) → Reps c G H L F → Reps c G H' L F
  | _, _, _, .nil => .nil
  | _, _, k, .cons a t => .cons (Rep.keep (fun b hb => k b (List.mem_append_left _ hb)) a) (Reps.keep (fun b hb => k b (List.mem_append_right _ hb)) t)
theorem Fa3.some {c : Gh} {G H : Hp} {m : Md} (ih : ∀ {v : V} {d : D} {F : List Addr}, Rep c G H m v d F → ∀ a ∈ F, ∃ xs, H a = some (.lst xs)) : ∀ {vs : List V} {ds : List D} {Fs : List (List Addr)}, Fa3 (Rep c G H m) vs ds Fs → ∀ a ∈ Fs.flatten, ∃ xs, H a = some (.lst xs)
  | _, _, _, .nil, a, h => by simp at h
  | _, _, _, .cons p t, a, h => by
    rw [List.flatten_cons] at h
    rcases List.mem_append.mp h with h | h
    · exact ih p a h
    · exact Fa3.some ih t a h
/-- what is in a footprint is a list -/
theorem Rep.some {c : Gh} {G H : Hp} : ∀ {m : Md} {v : V} {d : D} {F : List Addr}, Rep c G H m v d F → ∀ a ∈ F, ∃ xs, H a = some (.lst xs) := by
  intro m
  induction m with
  | sh => intro v d F h a ha; rw [h.1] at ha; simp at ha
  | bo => intro v d F h a ha; rw [h.1] at ha; simp at ha
  | bx =>
    intro v d F h a ha
    obtain ⟨p, q, vs, ws, ds, es, h1, h2, h3, h4, h5, h6, rfl⟩ := h
    rcases List.mem_cons.mp ha with rfl | ha
    · exact ⟨_, h3⟩
    · rw [List.mem_singleton.mp ha]; exact ⟨_, h4⟩
  | ow m ih =>
    intro v d F h a ha
    obtain ⟨b, vs, ds, Fs, h1, h2, h3, h4, rfl⟩ := h
    rcases List.mem_cons.mp ha with rfl | ha
    · exact ⟨_, h3⟩
    · exact Fa3.some ih h4 a ha
theorem Reps.some {c : Gh} {G H : Hp} : ∀ {L : List T3} {F : List Addr}, Reps c G H L F → ∀ a ∈ F, ∃ xs, H a = some (.lst xs)
  | _, _, .nil, a, h => by simp at h
  | _, _, .cons p t, a, h => by
    rcases List.mem_append.mp h with h | h
    · exact Rep.some p a h
    · exact Reps.some t a h

/-- a new object, not yet held -/
theorem Rel.laid {c : Gh} {G H : Hp} {L : List T3} {p : Addr} {o : HO} (r : Rel c G H L) (hp : H p = none) : Rel c G (upd H p o) L := by
  obtain ⟨F, h, n, q⟩ := r.own
  have s := Sub.upd (o := o) hp
  refine ⟨r.sub.trans s, r.subB.trans s, r.pu, fun P hP => ?_, F, Reps.keep (fun a ha => ?_) h, n, q⟩
  · obtain ⟨ps, e, t⟩ := r.tab P hP
    exact ⟨ps, s P _ e, t⟩
  · obtain ⟨xs, e⟩ := h.some a ha
    rw [upd_ne (ne_of_none e hp)]
theorem Rel.fresh {c : Gh} {G H : Hp} {L : List T3} {p : Addr} (r : Rel c G H L) (hp : H p = none) : G p = none ∧ c.B p = none := by
  constructor
  · cases e : G p with
    | none => rfl
    | some o => rw [r.sub p o e] at hp; cases hp
  · cases e : c.B p with
    | none => rfl
    | some o => rw [r.subB p o e] at hp; cases hp
theorem un_upd {G B : Hp} {p : Addr} {o : HO} : un (upd G p o) B = upd (un G B) p o := by
  funext a
  unfold un upd
  by_cases e : a = p
  · subst e; simp
  · simp [e]
/-- what stands in H is taken to what stays -/
theorem Rel.grow {c : Gh} {G H : Hp} {L : List T3} {p : Addr} {o : HO} (r : Rel c G H L) (hG : G p = none) (hH : H p = some o) (ho : Pu o) (hF : ∀ F, Reps c G H L F → p ∉ F) : Sub G (upd G p o) ∧ Rel c (upd G p o) H L := by
  obtain ⟨F, h, n, q⟩ := r.own
  have s0 : Sub G (upd G p o) := Sub.upd hG
  have s : Sub (upd G p o) H := fun a x e => by
    by_cases ha : a = p
    · subst ha; rw [upd_same] at e; cases e; exact hH
    · rw [upd_ne ha] at e; exact r.sub a x e
  refine ⟨s0, s, r.subB, fun a x e => ?_, r.tab, F, Reps.grow s0 s r.subB h, n, fun a ha => ?_⟩
  · rw [un_upd] at e
    by_cases hap : a = p
    · subst hap; rw [upd_same] at e; cases e; exact ho
    · rw [upd_ne hap] at e; exact r.pu a x e
  · obtain ⟨h2, h3⟩ := q a ha
    exact ⟨by rw [upd_ne (fun e => hF F h (by rw [← e]; exact ha))]; exact h2, h3⟩
/-- .. a new tuple of shared things -/
theorem Rel.new_tup {c : Gh} {G H : Hp} {L : List T3} {p : Addr} {vs : List V} {ds : List D} (r : Rel c G H L) (hp : H p = none) (h : DqAll c.K G vs ds) :
    Sub G (upd G p (.tup vs)) ∧ Rel c (upd G p (.tup vs)) (upd H p (.tup vs)) ((.sh, .ref p, .tuple ds) :: L) := by
  obtain ⟨s, r2⟩ := (r.laid (o := .tup vs) hp).grow (p := p) (o := .tup vs) (r.fresh hp).1 upd_same trivial fun F h1 hm => by
    obtain ⟨xs, z⟩ := h1.some p hm
    rw [upd_same] at z; cases z
  exact ⟨s, r2.put_sh (.tup (.inl (.inl upd_same)) (Dq.subAll s _ _ h))⟩
theorem fa3_sh {c : Gh} {G H : Hp} : ∀ {vs : List V} {ds : List D}, DqAll c.K G vs ds → Fa3 (Rep c G H .sh) vs ds (List.replicate ds.length [])
  | _, _, .nil => .nil
  | _, _, .cons h t => .cons ⟨rfl, h⟩ (fa3_sh t)
theorem flat_nil {α : Type} : ∀ n : Nat, (List.replicate n ([] : List α)).flatten = []
  | 0 => rfl
  | n + 1 => by rw [List.replicate_succ, List.flatten_cons, flat_nil n]; rfl
theorem of_fa3_sh {c : Gh} {G H : Hp} : ∀ {vs : List V} {ds : List D} {Fs : List (List Addr)}, Fa3 (Rep c G H .sh) vs ds Fs → DqAll c.K G vs ds ∧ Fs.flatten = []
  | _, _, _, .nil => ⟨.nil, rfl⟩
  | _, _, _, .cons h t => by
    obtain ⟨h1, h2⟩ := of_fa3_sh t
    refine ⟨.cons h.2 h1, ?_⟩
    rw [List.flatten_cons, h.1, h2]; rfl
theorem rep_ow {c : Gh} {G H : Hp} {a : Addr} {vs : List V} {ds : List D} (e : H a = some (.lst vs)) (h : DqAll c.K G vs ds) : Rep c G H (.ow .sh) (.ref a) (.list ds) [a] :=
  ⟨a, vs, ds, _, rfl, rfl, e, fa3_sh h, by rw [flat_nil]⟩
theorem of_rep_ow {c : Gh} {G H : Hp} {v : V} {d : D} {F : List Addr} (h : Rep c G H (.ow .sh) v d F) : ∃ a vs ds, v = .ref a ∧ d = .list ds ∧ H a = some (.lst vs) ∧ DqAll c.K G vs ds ∧ F = [a] := by
  obtain ⟨a, vs, ds, Fs, h1, h2, h3, h4, h5⟩ := h
  obtain ⟨h6, h7⟩ := of_fa3_sh h4
  exact ⟨a, vs, ds, h1, h2, h3, h6, by rw [h5, h7]⟩
/-- .. a new list of shared things, owned -/
theorem Rel.new_lst {c : Gh} {G H : Hp} {L : List T3} {p : Addr} {vs : List V} {ds : List D} (r : Rel c G H L) (hp : H p = none) (h : DqAll c.K G vs ds) : Rel c G (upd H p (.lst vs)) ((.ow .sh, .ref p, .list ds) :: L) := by
  have r1 : Rel c G (upd H p (.lst vs)) L := r.laid hp
  obtain ⟨F, h0, n, q⟩ := r.own
  refine ⟨r1.sub, r1.subB, r1.pu, r1.tab, [p] ++ F, .cons (rep_ow upd_same h) (Reps.keep (fun a ha => ?_) h0), ?_, fun a ha => ?_⟩
  · obtain ⟨xs, e⟩ := h0.some a ha
    rw [upd_ne (ne_of_none e hp)]
  · refine List.nodup_cons.mpr ⟨fun hm => ?_, n⟩
    obtain ⟨xs, e⟩ := h0.some p hm
    rw [hp] at e; cases e
  · rcases List.mem_cons.mp ha with rfl | ha
    · exact r.fresh hp
    · exact q a ha
/-- an owned list of shared things: what stands there -/
theorem Rel.ow_of {c : Gh} {G H : Hp} {v : V} {d : D} {L : List T3} (r : Rel c G H ((.ow .sh, v, d) :: L)) : ∃ a vs ds, v = .ref a ∧ d = .list ds ∧ H a = some (.lst vs) ∧ DqAll c.K G vs ds := by
  obtain ⟨F, h, n, q⟩ := r.own
  cases h with
  | cons a t =>
    obtain ⟨a, vs, ds, h1, h2, h3, h4, _⟩ := of_rep_ow a
    exact ⟨a, vs, ds, h1, h2, h3, h4⟩
/-- .. it is written -/
theorem Rel.write {c : Gh} {G H : Hp} {a : Addr} {d : D} {L : List T3} {vs : List V} {ds : List D} (r : Rel c G H ((.ow .sh, .ref a, d) :: L)) (h : DqAll c.K G vs ds) : Rel c G (upd H a (.lst vs)) ((.ow .sh, .ref a, .list ds) :: L) := by
  obtain ⟨F, h0, n, q⟩ := r.own
  cases h0 with
  | cons p t =>
    rename_i F1 E
    obtain ⟨b, us, es, h1, h2, h3, h4, h5⟩ := of_rep_ow p
    cases h1
    subst h5
    have na : ∀ x, x ∈ E → x ≠ a := fun x hx e => by
      subst e
      exact (List.nodup_cons.mp n).1 hx
    have q0 := q a List.mem_cons_self
    have kG : ∀ x o, G x = some o → x ≠ a := fun x o e z => by subst z; rw [q0.1] at e; cases e
    have kB : ∀ x o, c.B x = some o → x ≠ a := fun x o e z => by subst z; rw [q0.2] at e; cases e
    refine ⟨fun x o e => by rw [upd_ne (kG x o e)]; exact r.sub x o e, fun x o e => by rw [upd_ne (kB x o e)]; exact r.subB x o e, r.pu, fun P hP => ?_, [a] ++ E, .cons (rep_ow upd_same h) (Reps.keep (fun x hx => by rw [upd_ne (na x hx)]) t), n, q⟩
    obtain ⟨ps, e, z⟩ := r.tab P hP
    exact ⟨ps, by rw [upd_ne (fun w => by subst w; rw [h3] at e; cases e)]; exact e, z⟩
/-- may it be given to all -/
def Md.gives : Md → Bool
  | .sh => true
  | .bo => false
  | .bx => false
  | .ow m => m.gives
def persist (G H : Hp) (F : List Addr) : Hp := fun a => if a ∈ F then H a else G a
theorem persist_in {G H : Hp} {F : List Addr} {a : Addr} (h : a ∈ F) : persist G H F a = H a := by unfold persist; rw [if_pos h]
theorem persist_out {G H : Hp} {F : List Addr} {a : Addr} (h : a ∉ F) : persist G H F a = G a := by unfold persist; rw [if_neg h]
theorem dp_fa3 {c : Gh} {G G' H : Hp} {m : Md} (ih : ∀ {v : V} {d : D} {F : List Addr}, (∀ a ∈ F, G' a = H a) → Rep c G H m v d F → Dq c.K G' v d) : ∀ {vs : List V} {ds : List D} {Fs : List (List Addr)}, (∀ a ∈ Fs.flatten, G' a = H a) → Fa3 (Rep c G H m) vs ds Fs → DqAll c.K G' vs ds
  | _, _, _, _, .nil => .nil
  | _, _, _, k, .cons a t => .cons (ih (fun b hb => k b (by rw [List.flatten_cons]; exact List.mem_append_left _ hb)) a) (dp_fa3 ih (fun b hb => k b (by rw [List.flatten_cons]; exact List.mem_append_right _ hb)) t)
theorem Rep.shared {c : Gh} {G G' H : Hp} (s : Sub G G') : ∀ {m : Md}, m.gives = true → ∀ {v : V} {d : D} {F : List Addr}, (∀ a ∈ F, G' a = H a) → Rep c G H m v d F → Dq c.K G' v d := by
  intro m
  induction m with
  | sh => intro _ v d F _ h; exact Dq.sub s _ _ h.2
  | bo => intro n; cases n
  | bx => intro n; cases n
  | ow m ih =>
    intro n v d F k h
    obtain ⟨a, vs, ds, Fs, rfl, rfl, h3, h4, rfl⟩ := h
    exact .lst (by rw [k a List.mem_cons_self]; exact h3) (dp_fa3 (ih n) (fun b hb => k b (List.mem_cons_of_mem _ hb)) h4)
theorem Rel.share {c : Gh} {m : Md} {G H : Hp} {v : V} {d : D} {L : List T3} (hm : m.gives = true) (r : Rel c G H ((m, v, d) :: L)) : ∃ G', Sub G G' ∧ Rel c G' H ((.sh, v, d) :: L) := by
  obtain ⟨F0, h, n, q⟩ := r.own
  cases h with
  | cons p t =>
    rename_i F E
    have nF : ∀ a ∈ F, G a = none := fun a ha => (q a (List.mem_append_left _ ha)).1
    have s : Sub G (persist G H F) := fun a o e => by
      by_cases ha : a ∈ F
      · rw [nF a ha] at e; cases e
      · rw [persist_out ha]; exact e
    have s2 : Sub (persist G H F) H := fun a o e => by
      by_cases ha : a ∈ F
      · rw [persist_in ha] at e; exact e
      · rw [persist_out ha] at e; exact r.sub a o e
    refine ⟨_, s, Rel.put_sh ⟨s2, r.subB, fun a o e => ?_, r.tab, E, Reps.grow s s2 r.subB t, (List.nodup_append.mp n).2.1, fun a ha => ?_⟩ (Rep.shared s hm (fun a ha => persist_in ha) p)⟩
    · by_cases ha : a ∈ F
      · unfold un at e
        rw [persist_in ha] at e
        obtain ⟨xs, z⟩ := p.some a ha
        rw [z] at e
        cases e
        trivial
      · refine r.pu a o ?_
        unfold un at e ⊢
        rw [persist_out ha] at e
        exact e
    · have hne : a ∉ F := fun hf => (List.nodup_append.mp n).2.2 a hf a ha rfl
      rw [persist_out hne]
      exact q a (List.mem_append_right _ ha)
/-- a borrowed thing that points nowhere is shared -/
def flatD : D → Bool
  | .none => true
  | .bool _ => true
  | .int _ => true
  | .str _ => true
  | _ => false
theorem Dq.flat {K : PySem.W.Frag} {G G' : Hp} : ∀ {d : D} {v : V}, flatD d = true → Dq K G v d → Dq K G' v d
  | .none, _, _, h => by cases h; exact .non
  | .bool b, _, _, h => by cases h; exact .bl b
  | .int i, _, _, h => by cases h; exact .int i
  | .str x, _, _, h => by cases h; exact .str x
  | .list _, _, n, _ => by cases n
  | .tuple _, _, n, _ => by cases n
  | .dict _, _, n, _ => by cases n

/-! ### slots -/
abbrev SV := Option (Md × D)
abbrev SS := List SV
def one : Option V × SV → Option T3
  | (some v, some (m, d)) => some (m, v, d)
  | _ => none
def prs (σ : L2.St) (S : SS) : List T3 := (σ.zip S).filterMap one
structure Cov (σ : L2.St) (S : SS) : Prop where
  len : S.length = σ.length
  at_ : ∀ (i : Nat) (x : Md × D), S[i]? = some (some x) → ∃ v : V, σ[i]? = some (some v)
theorem prs_take : ∀ {σ : L2.St} {S : SS} {i : Nat} {v : V} {m : Md} {d : D}, σ[i]? = some (some v) → S[i]? = some (some (m, d)) → (prs σ S).Perm ((m, v, d) :: prs σ (S.set i none))
  | [], _, _, _, _, _, h, _ => by simp at h
  | _ :: _, [], _, _, _, _, _, h => by simp at h
  | x :: σ, y :: S, 0, v, m, d, h, h2 => by
    simp at h h2
    subst h; subst h2
    simp only [prs, List.set_cons_zero, List.zip_cons_cons, List.filterMap_cons, one]
    exact .refl _
  | x :: σ, y :: S, i + 1, v, m, d, h, h2 => by
    have ih := prs_take (σ := σ) (S := S) (i := i) (by simpa using h) (by simpa using h2)
    simp only [prs, List.zip_cons_cons, List.filterMap_cons, List.set_cons_succ] at ih ⊢
    cases hx : one (x, y) with
    | none => exact ih
    | some t => exact (ih.cons t).trans (.swap _ _ _)
theorem prs_put : ∀ {σ : L2.St} {S : SS} {i : Nat} {v : V} {m : Md} {d : D}, i < σ.length → i < S.length → (prs (σ.set i (some v)) (S.set i (some (m, d)))).Perm ((m, v, d) :: prs σ (S.set i none))
  | [], _, _, _, _, _, h, _ => by simp at h
  | _ :: _, [], _, _, _, _, _, h => by simp at h
  | x :: σ, y :: S, 0, v, m, d, h, h2 => by
    simp only [prs, List.set_cons_zero, List.zip_cons_cons, List.filterMap_cons]
    have e : one (x, none) = none := by cases x <;> rfl
    rw [e]
    exact .refl _
  | x :: σ, y :: S, i + 1, v, m, d, h, h2 => by
    have ih := prs_put (σ := σ) (S := S) (i := i) (v := v) (m := m) (d := d) (by simpa using h) (by simpa using h2)
    simp only [prs, List.zip_cons_cons, List.filterMap_cons, List.set_cons_succ] at ih ⊢
    cases hx : one (x, y) with
    | none => exact ih
    | some t => exact (ih.cons t).trans (.swap _ _ _)
/-- the state: the slots, then the rest (what is in hand, the callers') -/
structure SOk (c : Gh) (G H : Hp) (σ : L2.St) (S : SS) (R : List T3) : Prop where
  cov : Cov σ S
  rel : Rel c G H (R ++ prs σ S)
theorem set_self {α : Type} : ∀ {l : List α} {i : Nat} {x : α}, l[i]? = some x → l.set i x = l
  | [], _, _, h => by simp at h
  | a :: l, 0, x, h => by simp at h; subst h; rfl
  | a :: l, i + 1, x, h => by rw [List.set_cons_succ, set_self (l := l) (by simpa using h)]
theorem Cov.none {σ : L2.St} {S : SS} (h : Cov σ S) (i : Nat) : Cov σ (S.set i none) := ⟨by rw [List.length_set]; exact h.len, fun j x e => by
  by_cases q : i = j
  · subst q
    by_cases hl : i < S.length
    · rw [List.getElem?_set_self hl] at e; cases e
    · rw [List.getElem?_eq_none (by simpa using hl)] at e; cases e
  · rw [List.getElem?_set_ne q] at e; exact h.at_ j x e⟩
theorem Cov.put {σ : L2.St} {S : SS} (h : Cov σ S) {i : Nat} {x : Md × D} {v : V} (e : σ[i]? = some (some v)) : Cov σ (S.set i (some x)) := ⟨by rw [List.length_set]; exact h.len, fun j y e2 => by
  by_cases q : i = j
  · subst q; exact ⟨v, e⟩
  · rw [List.getElem?_set_ne q] at e2; exact h.at_ j y e2⟩
theorem lt_of_get {α : Type} {l : List α} {i : Nat} {x : α} (h : l[i]? = some x) : i < l.length := by
  obtain ⟨a, _⟩ := List.getElem?_eq_some_iff.mp h
  exact a
section
variable {c : Gh} {G H : Hp} {σ : L2.St} {S : SS} {R : List T3}
theorem SOk.slot (h : SOk c G H σ S R) {i : Nat} {m : Md} {d : D} (e : S[i]? = some (some (m, d))) : ∃ v, σ[i]? = some (some v) ∧ Rel c G H ((m, v, d) :: (R ++ prs σ (S.set i none))) := by
  obtain ⟨v, hv⟩ := h.cov.at_ i _ e
  exact ⟨v, hv, h.rel.perm (((prs_take hv e).append_left R).trans List.perm_middle)⟩
theorem SOk.put (h : Cov σ S) {i : Nat} {m : Md} {d : D} {v : V} (e : σ[i]? = some (some v)) (hi : i < S.length) (r : Rel c G H ((m, v, d) :: (R ++ prs σ (S.set i none)))) : SOk c G H σ (S.set i (some (m, d))) R := by
  refine ⟨h.put e, r.perm ?_⟩
  have p := prs_put (σ := σ) (S := S) (i := i) (v := v) (m := m) (d := d) (lt_of_get e) hi
  rw [set_self e] at p
  exact (List.perm_middle.symm).trans (p.symm.append_left R)
theorem SOk.sub (h : SOk c G H σ S R) : Sub G H := h.rel.sub
end

/-! ### results -/
inductive Er where
  | stuck
  | exc (n : Str) (ds : List D)
abbrev M := Except Er
abbrev MV := Md × D
abbrev FE := SS → M (MV × SS)
abbrev FT := SS → M (Bool × SS)
abbrev stk {α : Type} : M α := .error .stuck

/-- what an expression's reading asks: that f goes on from the state, and what follows -/
def tE (c : Gh) (f : FE) : TE := fun σ H Q => ∃ G S R, SOk c G H σ S R ∧ ∃ r S', f S = .ok (r, S') ∧ ∀ G' v H', Sub G G' → SOk c G' H' σ S' ((r.1, v, r.2) :: R) → Q v H'
def tT (c : Gh) (f : FT) : TT := fun σ H Q => ∃ G S R, SOk c G H σ S R ∧ ∃ b S', f S = .ok (b, S') ∧ ∀ G' H', Sub G G' → SOk c G' H' σ S' R → Q b H'
theorem pemono {X : Cx} {e : Expr} {t t' : TE} (h : PE X e t) (k : ∀ σ H Q, t' σ H Q → t σ H Q) : PE X e t' := ⟨fun pins s σ H Q I q => h.run pins s σ H Q I (k σ H Q q)⟩
theorem ptmono {X : Cx} {e : Expr} {t t' : TT} (h : PT X e t) (k : ∀ σ H Q, t' σ H Q → t σ H Q) : PT X e t' := ⟨fun pins s σ H Q I q => h.run pins s σ H Q I (k σ H Q q)⟩

/-! ### names and constants -/
def fVar (i : Nat) : FE := fun S => match S[i]? with
  | some (some (.sh, d)) => .ok ((.sh, d), S)
  | some (some (.bo, d)) => .ok ((.bo, d), S)
  | some (some (.ow m, d)) => if m.gives then .ok ((.sh, d), S.set i (some (.sh, d))) else stk
  | _ => stk
def fTake (i : Nat) : FE := fun S => match S[i]? with
  | some (some r) => .ok (r, S.set i none)
  | _ => stk
def fCon (d : D) : FE := fun S => .ok ((.sh, d), S)
section
variable {X : Cx} {c : Gh}
theorem de_var {i : Nat} {x : Str} {pos : Pos} (hN : X.N[i]? = some x := by rfl) (hv : Vis X.env.scope x := by first | exact Or.inl rfl | exact Or.inr (Or.inl rfl) | exact Or.inr (Or.inr rfl)) (hd : (x == ("__debug__" : Str)) = false := by decide)
    (hcd : (x == ("__classdict__" : Str)) = false := by decide) : PE X (.Name x pos) (tE c (fVar i)) := by
  refine pemono (pe_var hN hv hd hcd) fun σ H Q h => ?_
  obtain ⟨G, S, R, ok, r, S', e, k⟩ := h
  unfold fVar at e
  split at e
  · rename_i d hS
    cases e
    obtain ⟨v, hv, rl⟩ := ok.slot hS
    exact ⟨v, hv, k G v H (Sub.refl G) ⟨ok.cov, (ok.rel).put_sh rl.sh_of⟩⟩
  · rename_i d hS
    cases e
    obtain ⟨v, hv, rl⟩ := ok.slot hS
    exact ⟨v, hv, k G v H (Sub.refl G) ⟨ok.cov, (ok.rel).put_bo rl.bo_of⟩⟩
  · rename_i m d hS
    split at e
    · rename_i hm
      cases e
      obtain ⟨v, hv, rl⟩ := ok.slot hS
      obtain ⟨G', s, rl'⟩ := Rel.share (m := .ow m) hm rl
      have z := rl'.sh_of
      refine ⟨v, hv, k G' v H s ?_⟩
      have ok2 := SOk.put ok.cov hv (lt_of_get hS) rl'
      exact ⟨ok2.cov, ok2.rel.put_sh z⟩
    · cases e
  · cases e
theorem de_take {i : Nat} {x : Str} {pos : Pos} (hN : X.N[i]? = some x := by rfl) (hv : Vis X.env.scope x := by first | exact Or.inl rfl | exact Or.inr (Or.inl rfl) | exact Or.inr (Or.inr rfl)) (hd : (x == ("__debug__" : Str)) = false := by decide)
    (hcd : (x == ("__classdict__" : Str)) = false := by decide) : PE X (.Name x pos) (tE c (fTake i)) := by
  refine pemono (pe_var hN hv hd hcd) fun σ H Q h => ?_
  obtain ⟨G, S, R, ok, r, S', e, k⟩ := h
  unfold fTake at e
  split at e
  · rename_i d hS
    cases e
    obtain ⟨v, hv, rl⟩ := ok.slot hS
    exact ⟨v, hv, k G v H (Sub.refl G) ⟨ok.cov.none i, rl⟩⟩
  · cases e
/-- a value that points nowhere -/
theorem de_con {v : V} {d : D} {e : Expr} (h : PE X e (tC v)) (hd : ∀ G, Dq c.K G v d) : PE X e (tE c (fCon d)) := by
  refine pemono h fun σ H Q q => ?_
  obtain ⟨G, S, R, ok, r, S', e, k⟩ := q
  cases e
  exact k G v H (Sub.refl G) ⟨ok.cov, ok.rel.put_sh (hd G)⟩
theorem de_int {i j pos} : PE X (.Constant (.int i) j pos) (tE c (fCon (.int i))) := de_con pe_int fun _ => .int i
theorem de_bl {b j pos} : PE X (.Constant (.bool b) j pos) (tE c (fCon (.bool b))) := de_con pe_bl fun _ => .bl b
theorem de_non {j pos} : PE X (.Constant .none j pos) (tE c (fCon .none)) := de_con pe_non fun _ => .non
theorem de_str {x j pos} : PE X (.Constant (.str x) j pos) (tE c (fCon (.str x))) := de_con pe_str fun _ => .str x
/-- a constant of the module -/
theorem de_glob {x : Str} {d : D} {pos : Pos} (hg : Gl X x) (h : ∃ v u, X.mg x = some u ∧ RelV v u ∧ ∀ G, Dq c.K G v d) (hd : (x == ("__debug__" : Str)) = false := by decide) : PE X (.Name x pos) (tE c (fCon d)) := by
  obtain ⟨v, u, h1, h2, h3⟩ := h
  exact de_con (pe_glob hg h1 h2 hd) h3
end
end O
set_option maxRecDepth 100000
namespace O
open PySem PySem.Spec PyProof.Rows L2

/-! ### what is in hand, seen -/
def View (c : Gh) (G H : Hp) (r : MV) (v : V) : Prop := ∃ F, Rep c G H r.1 v r.2 F
theorem Reps.mem {c : Gh} {G H : Hp} {t : T3} : ∀ {L : List T3} {F : List Addr}, Reps c G H L F → t ∈ L → ∃ F, Rep c G H t.1 t.2.1 t.2.2 F
  | _, _, .nil, h => by simp at h
  | _, _, .cons a t, h => by
    rcases List.mem_cons.mp h with rfl | h
    · exact ⟨_, a⟩
    · exact Reps.mem t h
theorem Rel.view {c : Gh} {G H : Hp} {L : List T3} (r : Rel c G H L) {m : Md} {v : V} {d : D} (h : (m, v, d) ∈ L) : View c G H (m, d) v := by
  obtain ⟨F, h', _⟩ := r.own
  exact h'.mem h
theorem dp_of_fa3 {c : Gh} {G H : Hp} {m : Md} (ih : ∀ {v : V} {d : D} {F : List Addr}, Rep c G H m v d F → Dp c.K H v d) : ∀ {vs : List V} {ds : List D} {Fs : List (List Addr)}, Fa3 (Rep c G H m) vs ds Fs → DpAll c.K H vs ds
  | _, _, _, .nil => .nil
  | _, _, _, .cons a t => .cons (ih a) (dp_of_fa3 ih t)
/-- what is held may be read as it stands -/
theorem Rep.dp {c : Gh} {G H : Hp} (s : Sub G H) (b : Sub c.B H) : ∀ {m : Md} {v : V} {d : D} {F : List Addr}, Rep c G H m v d F → Dp c.K H v d := by
  intro m
  induction m with
  | sh => intro v d F h; exact Dq.dp _ _ (Dq.sub s _ _ h.2)
  | bo => intro v d F h; exact Dq.dp _ _ (Dq.sub (s.of_un b) _ _ h.2)
  | bx =>
    intro v d F h
    obtain ⟨p, q, vs, ws, ds, es, rfl, rfl, h3, h4, h5, h6, _⟩ := h
    exact .lst (.inl (.inl h3)) (.cons (.lst (.inl (.inl h4)) (Dq.dpAll _ _ (Dq.subAll s _ _ h6))) (Dq.dpAll _ _ (Dq.subAll s _ _ h5)))
  | ow m ih =>
    intro v d F h
    obtain ⟨a, vs, ds, Fs, rfl, rfl, h3, h4, _⟩ := h
    exact .lst (.inl (.inl h3)) (dp_of_fa3 ih h4)
theorem View.dp {c : Gh} {G H : Hp} {L : List T3} (r : Rel c G H L) {x : MV} {v : V} (h : View c G H x v) : Dp c.K H v x.2 := by
  obtain ⟨F, h⟩ := h
  exact h.dp r.sub r.subB
theorem dqAll_flat {K : PySem.W.Frag} {G G' : Hp} : ∀ {ds : List D} {vs : List V}, ds.all flatD = true → DqAll K G vs ds → DqAll K G' vs ds
  | [], _, _, h => by cases h; exact .nil
  | d :: ds, _, n, h => by
    rw [List.all_cons, Bool.and_eq_true] at n
    cases h with | cons a b => exact .cons (Dq.flat n.1 a) (dqAll_flat n.2 b)
/-- the items of a list or a tuple, if they are for all -/
def kids : MV → M (List D)
  | (.sh, .tuple ds) => .ok ds
  | (.sh, .list ds) => .ok ds
  | (.ow .sh, .list ds) => .ok ds
  | (.bo, .tuple ds) => if ds.all flatD then .ok ds else stk
  | (.bo, .list ds) => if ds.all flatD then .ok ds else stk
  | _ => stk
/-- a sequence at a, its kind told by its datum -/
def SeqD (K : PySem.W.Frag) (H : Hp) (a : Addr) (vs : List V) (ds : List D) (d : D) : Prop := (d = .list ds ∧ H a = some (.lst vs)) ∨ (d = .tuple ds ∧ SqT K H a vs)
theorem Rep.kids {c : Gh} {G H : Hp} {L : List T3} (r : Rel c G H L) : ∀ {m : Md} {d : D} {F : List Addr} {v : V} {ds : List D}, Rep c G H m v d F → kids (m, d) = .ok ds → ∃ a vs, v = .ref a ∧ SeqD c.K H a vs ds d ∧ DqAll c.K G vs ds := by
  intro m d F v ds h k
  match m, d, h, k with
  | .sh, .tuple _, h, k => cases k; cases h.2 with | tup a b => exact ⟨_, _, rfl, .inr ⟨rfl, SqT.sub r.sub a⟩, b⟩
  | .sh, .list _, h, k => cases k; cases h.2 with | lst a b => exact ⟨_, _, rfl, .inl ⟨rfl, r.sub _ _ a⟩, b⟩
  | .ow .sh, .list _, h, k =>
    cases k
    obtain ⟨a, vs, ds', rfl, h2, h3, h4, _⟩ := of_rep_ow h
    cases h2
    exact ⟨_, _, rfl, .inl ⟨rfl, h3⟩, h4⟩
  | .bo, .tuple xs, h, k =>
    simp only [O.kids] at k
    split at k
    · rename_i hf
      cases k
      cases h.2 with | tup a b => exact ⟨_, _, rfl, .inr ⟨rfl, SqT.sub (r.sub.of_un r.subB) a⟩, dqAll_flat hf b⟩
    · cases k
  | .bo, .list xs, h, k =>
    simp only [O.kids] at k
    split at k
    · rename_i hf
      cases k
      cases h.2 with | lst a b => exact ⟨_, _, rfl, .inl ⟨rfl, (r.sub.of_un r.subB) _ _ a⟩, dqAll_flat hf b⟩
    · cases k
theorem View.kids {c : Gh} {G H : Hp} {L : List T3} (r : Rel c G H L) {x : MV} {v : V} {ds : List D} (h : View c G H x v) (k : kids x = .ok ds) : ∃ a vs, v = .ref a ∧ SeqD c.K H a vs ds x.2 ∧ DqAll c.K G vs ds := by
  obtain ⟨F, h⟩ := h
  exact h.kids r k

theorem Reps.sublist {c : Gh} {G H : Hp} {L L' : List T3} (s : L'.Sublist L) : ∀ {F}, Reps c G H L F → ∃ F', Reps c G H L' F' ∧ F'.Sublist F := by
  induction s with
  | slnil => intro F h; exact ⟨F, h, .refl _⟩
  | cons t _ ih =>
    intro F h
    cases h with
    | cons a t =>
      obtain ⟨F', h1, h2⟩ := ih t
      exact ⟨F', h1, h2.trans (List.sublist_append_right _ _)⟩
  | cons_cons t _ ih =>
    intro F h
    cases h with
    | cons a t =>
      obtain ⟨F', h1, h2⟩ := ih t
      exact ⟨_, .cons a h1, h2.append_left _⟩
theorem Rel.sublist {c : Gh} {G H : Hp} {L L' : List T3} (r : Rel c G H L) (s : L'.Sublist L) : Rel c G H L' := by
  obtain ⟨F, h, n, q⟩ := r.own
  obtain ⟨F', h', s'⟩ := h.sublist s
  exact ⟨r.sub, r.subB, r.pu, r.tab, F', h', s'.nodup n, fun a ha => q a (s'.subset ha)⟩

/-! ### operands: in hand, or seen where they stand -/
inductive Tk where
  | val (r : MV)
  | slot (i : Nat)
abbrev FO := SS → M (Tk × SS)
def tkR : Tk → V → List T3
  | .val r, v => [(r.1, v, r.2)]
  | .slot _, _ => []
def tkOk (σ : L2.St) : Tk → V → Prop
  | .val _, _ => True
  | .slot i, v => σ[i]? = some (some v)
def tkGet : Tk → SS → M MV
  | .val r, _ => .ok r
  | .slot i, S => match S[i]? with
    | some (some r) => .ok r
    | _ => stk
def oV (f : FE) : FO := fun S => do
  let (r, S1) ← f S
  pure (.val r, S1)
def oP (i : Nat) : FO := fun S => match S[i]? with
  | some (some _) => .ok (.slot i, S)
  | _ => stk
def tO (c : Gh) (f : FO) : TE := fun σ H Q => ∃ G S R, SOk c G H σ S R ∧ ∃ t S', f S = .ok (t, S') ∧ ∀ G' v H', Sub G G' → tkOk σ t v → SOk c G' H' σ S' (tkR t v ++ R) → Q v H'
theorem bind_ok {α β : Type} {m : M α} {f : α → M β} {b : β} (h : (m >>= f) = .ok b) : ∃ a, m = .ok a ∧ f a = .ok b := by
  cases m with
  | error e => cases h
  | ok a => exact ⟨a, rfl, h⟩
section
variable {X : Cx} {c : Gh}
theorem do_val {e : Expr} {f : FE} (h : PE X e (tE c f)) : PE X e (tO c (oV f)) := by
  refine pemono h fun σ H Q q => ?_
  obtain ⟨G, S, R, ok, t, S', e, k⟩ := q
  obtain ⟨⟨r, S1⟩, e1, e2⟩ := bind_ok e
  cases e2
  exact ⟨G, S, R, ok, r, _, e1, fun G' v H' s ok' => k G' v H' s trivial ok'⟩
theorem do_pk {i : Nat} {x : Str} {pos : Pos} (hN : X.N[i]? = some x := by rfl) (hv : Vis X.env.scope x := by first | exact Or.inl rfl | exact Or.inr (Or.inl rfl) | exact Or.inr (Or.inr rfl)) (hd : (x == ("__debug__" : Str)) = false := by decide)
    (hcd : (x == ("__classdict__" : Str)) = false := by decide) : PE X (.Name x pos) (tO c (oP i)) := by
  refine pemono (pe_var hN hv hd hcd) fun σ H Q q => ?_
  obtain ⟨G, S, R, ok, t, S', e, k⟩ := q
  unfold oP at e
  split at e
  · rename_i r hS
    cases e
    obtain ⟨v, hv⟩ := ok.cov.at_ i r hS
    exact ⟨v, hv, k G v H (Sub.refl G) hv ok⟩
  · cases e
end
theorem tk_view {c : Gh} {G H : Hp} {σ : L2.St} {S : SS} {R R' : List T3} {t : Tk} {v : V} {r : MV} (ok : SOk c G H σ S R') (hR : ∀ x ∈ tkR t v, x ∈ R') (h : tkOk σ t v) (e : tkGet t S = .ok r) : View c G H r v := by
  cases t with
  | val r' => cases e; exact ok.rel.view (List.mem_append_left _ (hR _ (by simp [tkR])))
  | slot i =>
    simp only [tkGet] at e
    split at e
    · rename_i r' hS
      cases e
      obtain ⟨w, hw, rl⟩ := ok.slot hS
      have hv : σ[i]? = some (some v) := h
      rw [hw] at hv; cases hv
      exact rl.view List.mem_cons_self
    · cases e
/-! ### operators of two operands -/
abbrev Sem2 := MV → MV → M MV
def r2D (c : Gh) (sem : Sem2) : R2 := fun x y H Q => ∃ G L ra rb r, Rel c G H L ∧ View c G H ra x ∧ View c G H rb y ∧ sem ra rb = .ok r ∧ ∀ G' v H', Sub G G' → Rel c G' H' ((r.1, v, r.2) :: L) → Q v H'
def fOp2 (sem : Sem2) (oa ob : FO) : FE := fun S => do
  let (ta, S1) ← oa S
  let (tb, S2) ← ob S1
  let ra ← tkGet ta S2
  let rb ← tkGet tb S2
  let r ← sem ra rb
  pure (r, S2)
theorem View.grow {c : Gh} {G G' H : Hp} {x : MV} {v : V} (s : Sub G G') (s2 : Sub G' H) (b : Sub c.B H) (h : View c G H x v) : View c G' H x v := by
  obtain ⟨F, h⟩ := h
  exact ⟨F, h.grow s s2 b⟩
/-- the reading of an operator over its operands -/
theorem op2_read {c : Gh} {sem : Sem2} {oa ob : FO} {σ : L2.St} {H : Hp} {Q : VK} (h : tE c (fOp2 sem oa ob) σ H Q) : tOp (r2D c sem) (tO c oa) (tO c ob) σ H Q := by
  obtain ⟨G, S, R, ok, r, S', e, k⟩ := h
  obtain ⟨⟨ta, S1⟩, e1, e⟩ := bind_ok e
  obtain ⟨⟨tb, S2⟩, e2, e⟩ := bind_ok e
  obtain ⟨ra, e3, e⟩ := bind_ok e
  obtain ⟨rb, e4, e⟩ := bind_ok e
  obtain ⟨r', e5, e⟩ := bind_ok e
  cases e
  refine ⟨G, S, R, ok, ta, S1, e1, fun G1 x H1 s1 h1 ok1 => ?_⟩
  refine ⟨G1, S1, _, ok1, tb, _, e2, fun G2 y H2 s2 h2 ok2 => ?_⟩
  refine ⟨G2, _, ra, rb, r, ok2.rel, tk_view (R := R) ok2 (fun t ht => List.mem_append_right _ (List.mem_append_left _ ht)) h1 e3, tk_view (R := R) ok2 (fun t ht => List.mem_append_left _ ht) h2 e4, e5, fun G' v H' s rl => ?_⟩
  refine k G' v H' ((s1.trans s2).trans s) ⟨ok2.cov, ?_⟩
  refine rl.sublist (List.Sublist.cons_cons _ ?_)
  refine List.Sublist.append_right ?_ _
  exact (List.sublist_append_right _ _).trans (List.sublist_append_right _ _)
section
variable {X : Cx} {c : Gh} {a b : Expr} {oa ob : FO} {pos : Pos}
theorem de_op {op : Operator} {sem : Sem2} (ho : OpR X (binaryOp op) (r2D c sem)) (ha : PE X a (tO c oa)) (hb : PE X b (tO c ob)) : PE X (.BinOp a op b pos) (tE c (fOp2 sem oa ob)) := pemono (pe_op ho ha hb) fun _ _ _ h => op2_read h
theorem de_cmp {op : CmpOp} {sem : Sem2} (ho : OpR X (compareOp op) (r2D c sem)) (ha : PE X a (tO c oa)) (hb : PE X b (tO c ob)) (hm : behindInMarks op b = false := by first | rfl | exact nomark _) : PE X (.Compare a [op] [b] pos) (tE c (fOp2 sem oa ob)) := pemono (pe_cmpR ho ha hb hm) fun _ _ _ h => op2_read h
end
/-- a test by its value -/
def tB1 (f : FE) : FT := fun S => do
  let (r, S1) ← f S
  match r.2 with
  | .bool b => pure (b, S1)
  | _ => stk
theorem tb1_ok {f : FE} {S S' : SS} {b : Bool} (e : tB1 f S = .ok (b, S')) : ∃ m, f S = .ok ((m, .bool b), S') := by
  obtain ⟨⟨⟨m, d⟩, S1⟩, e1, e⟩ := bind_ok e
  cases d <;> cases e
  exact ⟨m, e1⟩
theorem tb_read {c : Gh} {f : FE} {σ : L2.St} {H : Hp} {Q : Bool → Hp → Prop} (h : tT c (tB1 f) σ H Q) : tTest (tE c f) σ H Q := by
  obtain ⟨G, S, R, ok, b, S', e, k⟩ := h
  obtain ⟨m, e⟩ := tb1_ok e
  refine ⟨G, S, R, ok, _, S', e, fun G' v H' s ok' => ?_⟩
  have hd := (ok'.rel.view (m := m) (v := v) (d := .bool b) (by simp)).dp ok'.rel
  cases hd
  exact ⟨b, rfl, k G' H' s ⟨ok'.cov, ok'.rel.drop⟩⟩
section
variable {X : Cx} {c : Gh} {a b : Expr} {oa ob : FO} {pos : Pos}
theorem dt_cmp {op : CmpOp} {sem : Sem2} (ho : OpR X (compareOp op) (r2D c sem)) (ha : PE X a (tO c oa)) (hb : PE X b (tO c ob)) (hm : behindInMarks op b = false := by first | rfl | exact nomark _) : PT X (.Compare a [op] [b] pos) (tT c (tB1 (fOp2 sem oa ob))) := ptmono (pt_cmpR ho ha hb hm) fun σ H Q h => by
  obtain ⟨G, S, R, ok, r, S1, e, k⟩ := tb_read h
  exact op2_read ⟨G, S, R, ok, r, S1, e, k⟩
/-- an expression (no and, or, not, comparison) as a test: its value a bool -/
theorem dt_val {e : Expr} {f : FE} (h : PE X e (tE c f)) (he : ∀ whole, isTrue e X.env whole = (do let v ← whole; standAt e.pos; holding [v] (truthy v)) := by intro _; rfl) : PT X e (tT c (tB1 f)) := ptmono (pt_val h he) fun σ H Q q => tb_read q
def fAndT (f g : FT) : FT := fun S => do
  let (b, S1) ← f S
  if b then g S1 else pure (false, S1)
def fOrT (f g : FT) : FT := fun S => do
  let (b, S1) ← f S
  if b then pure (true, S1) else g S1
def fNotT (f : FT) : FT := fun S => do
  let (b, S1) ← f S
  pure (!b, S1)
theorem not_read {c : Gh} {f : FT} {σ : L2.St} {H : Hp} {Q : Bool → Hp → Prop} (h : tT c (fNotT f) σ H Q) : tNot (tT c f) σ H Q := by
  obtain ⟨G, S, R, ok, b, S', e, k⟩ := h
  obtain ⟨⟨b1, S1⟩, e1, e⟩ := bind_ok e
  cases e
  exact ⟨G, S, R, ok, b1, _, e1, fun G' H' s ok' => k G' H' s ok'⟩
theorem and_read {c : Gh} {f g : FT} {σ : L2.St} {H : Hp} {Q : Bool → Hp → Prop} (h : tT c (fAndT f g) σ H Q) : tAnd (tT c f) (tT c g) σ H Q := by
  obtain ⟨G, S, R, ok, b, S', e, k⟩ := h
  obtain ⟨⟨b1, S1⟩, e1, e⟩ := bind_ok e
  refine ⟨G, S, R, ok, b1, S1, e1, fun G' H' s ok' => ?_⟩
  cases b1 with
  | true => exact ⟨G', S1, R, ok', b, S', e, fun G2 H2 s2 ok2 => k G2 H2 (s.trans s2) ok2⟩
  | false => cases e; exact k G' H' s ok'
theorem or_read {c : Gh} {f g : FT} {σ : L2.St} {H : Hp} {Q : Bool → Hp → Prop} (h : tT c (fOrT f g) σ H Q) : tOr (tT c f) (tT c g) σ H Q := by
  obtain ⟨G, S, R, ok, b, S', e, k⟩ := h
  obtain ⟨⟨b1, S1⟩, e1, e⟩ := bind_ok e
  refine ⟨G, S, R, ok, b1, S1, e1, fun G' H' s ok' => ?_⟩
  cases b1 with
  | true => cases e; exact k G' H' s ok'
  | false => exact ⟨G', S1, R, ok', b, S', e, fun G2 H2 s2 ok2 => k G2 H2 (s.trans s2) ok2⟩
variable {f g : FT} {rest : List Expr}
theorem dt_not (ha : PT X a (tT c f)) : PT X (.UnaryOp .Not a pos) (tT c (fNotT f)) := ptmono (pt_not ha) fun _ _ _ h => not_read h
structure PWd (X : Cx) (c : Gh) (e : Expr) (f : FT) : Prop where
  w : PW X e (tT c f)
theorem dw_and1 (ha : PT X a (tT c f)) : PWd X c (.BoolOp .And [a] pos) f := ⟨pw_and1 ha⟩
theorem dw_or1 (ha : PT X a (tT c f)) : PWd X c (.BoolOp .Or [a] pos) f := ⟨pw_or1 ha⟩
theorem dw_and (ha : PT X a (tT c f)) (hb : PWd X c (.BoolOp .And (b :: rest) pos) g) : PWd X c (.BoolOp .And (a :: b :: rest) pos) (fAndT f g) := ⟨⟨fun wh pins s σ H Q I h => (pw_and ha hb.w).run wh pins s σ H Q I (and_read h)⟩⟩
theorem dw_or (ha : PT X a (tT c f)) (hb : PWd X c (.BoolOp .Or (b :: rest) pos) g) : PWd X c (.BoolOp .Or (a :: b :: rest) pos) (fOrT f g) := ⟨⟨fun wh pins s σ H Q I h => (pw_or ha hb.w).run wh pins s σ H Q I (or_read h)⟩⟩
theorem dt_w {e : Expr} (h : PWd X c e f) : PT X e (tT c f) := h.w.pt
/-- and, or, not of bools as values; a if t else b -/
def fAndV (f g : FE) : FE := fun S => do
  let (r, S1) ← f S
  match r.2 with
  | .bool true => g S1
  | .bool false => pure ((.sh, .bool false), S1)
  | _ => stk
def fOrV (f g : FE) : FE := fun S => do
  let (r, S1) ← f S
  match r.2 with
  | .bool true => pure ((.sh, .bool true), S1)
  | .bool false => g S1
  | _ => stk
def fNotV (f : FE) : FE := fun S => do
  let (r, S1) ← f S
  match r.2 with
  | .bool b => pure ((.sh, .bool !b), S1)
  | _ => stk
def fIf (t : FT) (f g : FE) : FE := fun S => do
  let (b, S1) ← t S
  if b then f S1 else g S1
theorem bool_of {c : Gh} {G H : Hp} {L : List T3} {m : Md} {v : V} {b : Bool} (r : Rel c G H ((m, v, .bool b) :: L)) : v = .bl b := by
  have := (r.view (m := m) (v := v) (d := .bool b) List.mem_cons_self).dp r
  cases this; rfl
theorem de_and {f g : FE} (ha : PE X a (tE c f)) (hb : PE X (.BoolOp .And (b :: rest) pos) (tE c g)) : PE X (.BoolOp .And (a :: b :: rest) pos) (tE c (fAndV f g)) := by
  refine pemono (pe_and ha hb) fun σ H Q h => ?_
  obtain ⟨G, S, R, ok, r, S', e, k⟩ := h
  obtain ⟨⟨r1, S1⟩, e1, e⟩ := bind_ok e
  refine ⟨G, S, R, ok, r1, S1, e1, fun G' v H' s ok' => ?_⟩
  obtain ⟨m1, d1⟩ := r1
  simp only at e
  split at e
  · cases bool_of ok'.rel
    exact ⟨true, rfl, G', S1, R, ⟨ok'.cov, ok'.rel.drop⟩, r, S', e, fun G2 v2 H2 s2 ok2 => k G2 v2 H2 (s.trans s2) ok2⟩
  · cases bool_of ok'.rel
    cases e
    exact ⟨false, rfl, k G' _ H' s ⟨ok'.cov, ok'.rel.drop.put_sh (.bl _)⟩⟩
  · cases e
theorem de_or {f g : FE} (ha : PE X a (tE c f)) (hb : PE X (.BoolOp .Or (b :: rest) pos) (tE c g)) : PE X (.BoolOp .Or (a :: b :: rest) pos) (tE c (fOrV f g)) := by
  refine pemono (pe_or ha hb) fun σ H Q h => ?_
  obtain ⟨G, S, R, ok, r, S', e, k⟩ := h
  obtain ⟨⟨r1, S1⟩, e1, e⟩ := bind_ok e
  refine ⟨G, S, R, ok, r1, S1, e1, fun G' v H' s ok' => ?_⟩
  obtain ⟨m1, d1⟩ := r1
  simp only at e
  split at e
  · cases bool_of ok'.rel
    cases e
    exact ⟨true, rfl, k G' _ H' s ⟨ok'.cov, ok'.rel.drop.put_sh (.bl _)⟩⟩
  · cases bool_of ok'.rel
    exact ⟨false, rfl, G', S1, R, ⟨ok'.cov, ok'.rel.drop⟩, r, S', e, fun G2 v2 H2 s2 ok2 => k G2 v2 H2 (s.trans s2) ok2⟩
  · cases e
theorem de_one {op} {f : FE} (h : PE X a (tE c f)) : PE X (.BoolOp op [a] pos) (tE c f) := pe_one h
theorem de_not {f : FE} (ha : PE X a (tE c f)) : PE X (.UnaryOp .Not a pos) (tE c (fNotV f)) := by
  refine pemono (pe_not ha) fun σ H Q h => ?_
  obtain ⟨G, S, R, ok, r, S', e, k⟩ := h
  obtain ⟨⟨r1, S1⟩, e1, e⟩ := bind_ok e
  refine ⟨G, S, R, ok, r1, S1, e1, fun G' v H' s ok' => ?_⟩
  obtain ⟨m1, d1⟩ := r1
  simp only at e
  split at e
  · rename_i b
    cases bool_of ok'.rel
    cases e
    exact ⟨b, rfl, k G' _ H' s ⟨ok'.cov, ok'.rel.drop.put_sh (.bl _)⟩⟩
  · cases e
theorem de_if {t : Expr} {ft : FT} {f g : FE} (ht : PT X t (tT c ft)) (ha : PE X a (tE c f)) (hb : PE X b (tE c g)) : PE X (.IfExp t a b pos) (tE c (fIf ft f g)) := by
  refine pemono (pe_ifExp ht ha hb) fun σ H Q h => ?_
  obtain ⟨G, S, R, ok, r, S', e, k⟩ := h
  obtain ⟨⟨b1, S1⟩, e1, e⟩ := bind_ok e
  refine ⟨G, S, R, ok, b1, S1, e1, fun G' H' s ok' => ?_⟩
  cases b1 with
  | true => exact ⟨G', S1, R, ok', r, S', e, fun G2 v2 H2 s2 ok2 => k G2 v2 H2 (s.trans s2) ok2⟩
  | false => exact ⟨G', S1, R, ok', r, S', e, fun G2 v2 H2 s2 ok2 => k G2 v2 H2 (s.trans s2) ok2⟩
end
end O
set_option maxRecDepth 100000
namespace O
open PySem PySem.Spec PyProof.Rows L2

def shI (i : Int) : MV := (.sh, .int i)
def shB (b : Bool) : MV := (.sh, .bool b)
section
variable {X : Cx} {c : Gh}
theorem int_of {c : Gh} {G H : Hp} {L : List T3} {m : Md} {v : V} {i : Int} (r : Rel c G H L) (h : View c G H (m, .int i) v) : v = .int i := by
  have := h.dp r
  cases this; rfl
theorem str_of {c : Gh} {G H : Hp} {L : List T3} {m : Md} {v : V} {i : Str} (r : Rel c G H L) (h : View c G H (m, .str i) v) : v = .str i := by
  have := h.dp r
  cases this; rfl
theorem bl_of {c : Gh} {G H : Hp} {L : List T3} {m : Md} {v : V} {i : Bool} (r : Rel c G H L) (h : View c G H (m, .bool i) v) : v = .bl i := by
  have := h.dp r
  cases this; rfl
theorem non_of {c : Gh} {G H : Hp} {L : List T3} {m : Md} {v : V} (r : Rel c G H L) (h : View c G H (m, .none) v) : v = .non := by
  have := h.dp r
  cases this; rfl
/-- an operator of ints -/
def semI (C : Int → Int → Bool) (g : Int → Int → D) : Sem2 := fun a b => match a.2, b.2 with
  | .int i, .int j => if C i j then .ok (.sh, g i j) else stk
  | _, _ => stk
theorem semI_ok {C : Int → Int → Bool} {g : Int → Int → D} {a b r : MV} (h : semI C g a b = .ok r) : ∃ m n i j, a = (m, .int i) ∧ b = (n, .int j) ∧ C i j = true ∧ r = (.sh, g i j) := by
  obtain ⟨m, d⟩ := a
  obtain ⟨n, e⟩ := b
  cases d <;> cases e <;> simp only [semI] at h <;> first
    | (cases h; done)
    | (split at h
       · rename_i hc
         cases h
         exact ⟨m, n, _, _, rfl, rfl, hc, rfl⟩
       · cases h)
/-- ends with a datum that points nowhere -/
theorem r2_end {c : Gh} {G H : Hp} {L : List T3} {r : MV} {v : V} {Q : VK} (rl : Rel c G H L) (k : ∀ G' v H', Sub G G' → Rel c G' H' ((r.1, v, r.2) :: L) → Q v H') (hm : r.1 = .sh) (hd : Dq c.K G v r.2) : Q v H := by
  obtain ⟨m, d⟩ := r
  cases hm
  exact k G v H (Sub.refl G) (rl.put_sh hd)
theorem op_I {f : Value → Value → Sem Value} {C : Int → Int → Bool} {C' : Int → Int → Prop} {g : Int → Int → V} {g' : Int → Int → D} (ho : OpR X f (rI C' g)) (hC : ∀ i j, C i j = true → C' i j) (hg : ∀ G i j, Dq c.K G (g i j) (g' i j)) : OpR X f (r2D c (semI C g')) := by
  intro pins s σ H x y v u Q I rx ry h
  obtain ⟨G, L, ra, rb, r, rl, va, vb, e, k⟩ := h
  obtain ⟨m, n, i, j, rfl, rfl, hc, rfl⟩ := semI_ok e
  exact ho pins s σ H x y v u Q I rx ry ⟨i, j, int_of rl va, int_of rl vb, hC i j hc, r2_end rl k rfl (hg G i j)⟩
theorem op_I0 {f : Value → Value → Sem Value} {g : Int → Int → V} {g' : Int → Int → D} (ho : OpR X f (rI0 g)) (hg : ∀ G i j, Dq c.K G (g i j) (g' i j)) : OpR X f (r2D c (semI (fun _ _ => true) g')) := by
  intro pins s σ H x y v u Q I rx ry h
  obtain ⟨G, L, ra, rb, r, rl, va, vb, e, k⟩ := h
  obtain ⟨m, n, i, j, rfl, rfl, hc, rfl⟩ := semI_ok e
  exact ho pins s σ H x y v u Q I rx ry ⟨i, j, int_of rl va, int_of rl vb, r2_end rl k rfl (hg G i j)⟩
def always : Int → Int → Bool := fun _ _ => true
def semSub : Sem2 := semI always fun i j => .int (i - j)
def semFdiv : Sem2 := semI (fun i j => decide (j ≠ 0 ∧ j.natAbs.log2 < 9000)) fun i j => .int (i.fdiv j)
theorem op_fdivZ : OpR X (binaryOp .FloorDiv) (rI (fun _ j => j ≠ 0 ∧ j.natAbs.log2 < 9000) fun i j => .int (i.fdiv j)) := opI fun i j _ _ _ _ _ hc q => floordiv_int hc.1 q (.inl (PyProof.noPylong_of_log2 hc.2))
def semMod : Sem2 := semI (fun i j => decide (0 < j)) fun i j => .int (i % j)
def semPow : Sem2 := semI (fun i j => decide (0 ≤ j ∧ j ≤ 1000000 ∧ i.natAbs < 2 ^ 64)) fun i j => .int (i ^ j.toNat)
def semShl : Sem2 := semI (fun i j => decide (0 ≤ j ∧ j ≤ 1000000 ∧ i.natAbs < 2 ^ 64)) fun i j => .int (i * 2 ^ j.toNat)
def semShr : Sem2 := semI (fun i j => decide (0 ≤ j)) fun i j => .int (i / 2 ^ j.toNat)
def semAnd : Sem2 := semI always fun i j => .int (Builtin.bitAnd i j)
def semOr : Sem2 := semI always fun i j => .int (Builtin.bitOr i j)
def semXor : Sem2 := semI always fun i j => .int (Builtin.bitXor i j)
def semLeI : Sem2 := semI always fun i j => .bool (decide (i ≤ j))
def semGtI : Sem2 := semI always fun i j => .bool (decide (j < i))
def semGeI : Sem2 := semI always fun i j => .bool (decide (j ≤ i))
theorem o_sub : OpR X (binaryOp .Sub) (r2D c semSub) := op_I0 op_sub fun G i j => .int _
theorem o_isub : OpR X (inplaceOp .Sub) (r2D c semSub) := op_I0 iop_sub fun G i j => .int _
theorem o_fdiv : OpR X (binaryOp .FloorDiv) (r2D c semFdiv) := op_I op_fdivZ (fun i j h => show j ≠ 0 ∧ _ from of_decide_eq_true h) fun G i j => .int _
theorem o_mod : OpR X (binaryOp .Mod) (r2D c semMod) := op_I op_mod (fun i j h => by simpa using h) fun G i j => .int _
theorem o_pow : OpR X (binaryOp .Pow) (r2D c semPow) := op_I op_pow (fun i j h => show 0 ≤ j ∧ _ from of_decide_eq_true h) fun G i j => .int _
theorem o_shl : OpR X (binaryOp .LShift) (r2D c semShl) := op_I op_shl (fun i j h => show 0 ≤ j ∧ _ from of_decide_eq_true h) fun G i j => .int _
theorem o_shr : OpR X (binaryOp .RShift) (r2D c semShr) := op_I op_shr (fun i j h => by simpa using h) fun G i j => .int _
theorem o_and : OpR X (binaryOp .BitAnd) (r2D c semAnd) := op_I0 op_and fun G i j => .int _
theorem o_or : OpR X (binaryOp .BitOr) (r2D c semOr) := op_I0 op_or fun G i j => .int _
theorem o_xor : OpR X (binaryOp .BitXor) (r2D c semXor) := op_I0 op_xor fun G i j => .int _
theorem o_le : OpR X (compareOp .LtE) (r2D c semLeI) := op_I0 op_le fun G i j => .bl _
theorem o_gt : OpR X (compareOp .Gt) (r2D c semGtI) := op_I0 op_gt fun G i j => .bl _
theorem o_ge : OpR X (compareOp .GtE) (r2D c semGeI) := op_I0 op_ge fun G i j => .bl _

/-! ### a new object -/
theorem new_tup_end {G H : Hp} {L : List T3} {ds : List D} {vs : List V} {Q : VK} (rl : Rel c G H L) (hd : DqAll c.K G vs ds) (k : ∀ G' v H', Sub G G' → Rel c G' H' ((.sh, v, .tuple ds) :: L) → Q v H') : ∀ p, H p = none → Q (.ref p) (upd H p (.tup vs)) := fun p hp => by
  obtain ⟨s, r2⟩ := rl.new_tup hp hd
  exact k _ _ _ s r2
theorem new_lst_end {G H : Hp} {L : List T3} {ds : List D} {vs : List V} {Q : VK} (rl : Rel c G H L) (hd : DqAll c.K G vs ds) (k : ∀ G' v H', Sub G G' → Rel c G' H' ((.ow .sh, v, .list ds) :: L) → Q v H') : ∀ p, H p = none → Q (.ref p) (upd H p (.lst vs)) := fun p hp =>
  k G _ _ (Sub.refl G) (rl.new_lst hp hd)

/-! ### + -/
def semAdd : Sem2 := fun a b => match a, b with
  | (_, .int i), (_, .int j) => .ok (.sh, .int (i + j))
  | (_, .str x), (_, .str y) => if x.length + y.length ≤ sizeLine then .ok (.sh, .str (x ++ y)) else stk
  | (.sh, .tuple xs), (.sh, .tuple ys) => if xs.length + ys.length ≤ sizeLine then .ok (.sh, .tuple (xs ++ ys)) else stk
  | (m, .list xs), (n, .list ys) => do
    let xs ← kids (m, .list xs)
    let ys ← kids (n, .list ys)
    if xs.length + ys.length ≤ sizeLine then .ok (.ow .sh, .list (xs ++ ys)) else stk
  | _, _ => stk
theorem sh_dq {c : Gh} {G H : Hp} {v : V} {d : D} (h : View c G H (.sh, d) v) : Dq c.K G v d := by
  obtain ⟨F, h⟩ := h
  exact h.2
theorem kids_list {c : Gh} {G H : Hp} {L : List T3} (r : Rel c G H L) {m : Md} {v : V} {ds es : List D} (h : View c G H (m, .list es) v) (k : kids (m, .list es) = .ok ds) : ∃ a vs, v = .ref a ∧ H a = some (.lst vs) ∧ DqAll c.K G vs ds := by
  obtain ⟨a, vs, h1, h2, h3⟩ := h.kids r k
  rcases h2 with ⟨z, q⟩ | ⟨z, _⟩
  · exact ⟨a, vs, h1, q, h3⟩
  · cases z
theorem o_add (hK : c.K = X.K) : OpR X (binaryOp .Add) (r2D c semAdd) := by
  intro pins s σ H x y v u Q I rx ry h
  obtain ⟨G, L, ra, rb, r, rl, va, vb, e, k⟩ := h
  unfold semAdd at e
  split at e
  · cases e
    exact op_add pins s σ H x y v u Q I rx ry ⟨_, _, int_of rl va, int_of rl vb, r2_end rl k rfl (.int _)⟩
  · split at e
    · rename_i hl
      cases e
      exact op_add_str pins s σ H x y v u Q I rx ry ⟨_, _, str_of rl va, str_of rl vb, hl, r2_end rl k rfl (.str _)⟩
    · cases e
  · split at e
    · rename_i hl
      cases e
      have p1 := sh_dq va
      have p2 := sh_dq vb
      cases p1 with
      | tup a1 d1 =>
        cases p2 with
        | tup a2 d2 =>
          have l1 := d1.length
          have l2 := d2.length
          refine op_catA pins s σ H _ _ v u Q I rx ry ⟨_, _, _, _, rfl, rfl, by rw [← hK]; exact SqT.sub rl.sub a1, by rw [← hK]; exact SqT.sub rl.sub a2, by omega, fun z => ?_, fun _ z => ?_, fun _ _ => new_tup_end rl (d1.app d2) k⟩
          · subst z
            cases d1
            exact r2_end rl k rfl (.tup a2 d2)
          · subst z
            cases d2
            exact r2_end rl k rfl (by rw [List.append_nil]; exact .tup a1 d1)
    · cases e
  · obtain ⟨xs, e1, e⟩ := bind_ok e
    obtain ⟨ys, e2, e⟩ := bind_ok e
    split at e
    · rename_i hl
      cases e
      obtain ⟨a1, us, rfl, q1, p1⟩ := kids_list rl va e1
      obtain ⟨a2, ws, rfl, q2, p2⟩ := kids_list rl vb e2
      have l1 := p1.length
      have l2 := p2.length
      exact op_cat pins s σ H _ _ v u Q I rx ry ⟨_, _, _, _, rfl, rfl, q1, q2, by omega, new_lst_end rl (p1.app p2) k⟩
    · cases e
  · cases e
/-! ### * -/
def semMul : Sem2 := fun a b => match a, b with
  | (_, .int i), (_, .int j) => if (Builtin.Int.intBits i : Int) + (Builtin.Int.intBits j : Int) ≤ 134217728 then .ok (.sh, .int (i * j)) else stk
  | (m, .list xs), (_, .int n) => do
    let xs ← kids (m, .list xs)
    if -(2 ^ 63) ≤ n ∧ n < 2 ^ 63 ∧ xs.length * n.toNat ≤ sizeLine then .ok (.ow .sh, .list (List.replicate n.toNat xs).flatten) else stk
  | _, _ => stk
theorem dq_flat {K : PySem.W.Frag} {G : Hp} {vs : List V} {ds : List D} (h : DqAll K G vs ds) : ∀ n : Nat, DqAll K G (List.replicate n vs).flatten (List.replicate n ds).flatten
  | 0 => .nil
  | n + 1 => by
    rw [List.replicate_succ, List.replicate_succ, List.flatten_cons, List.flatten_cons]
    exact h.app (dq_flat h n)
theorem o_mul : OpR X (binaryOp .Mult) (r2D c semMul) := by
  intro pins s σ H x y v u Q I rx ry h
  obtain ⟨G, L, ra, rb, r, rl, va, vb, e, k⟩ := h
  unfold semMul at e
  split at e
  · split at e
    · rename_i hl
      cases e
      exact op_mulX pins s σ H x y v u Q I rx ry ⟨_, _, int_of rl va, int_of rl vb, hl, r2_end rl k rfl (.int _)⟩
    · cases e
  · obtain ⟨xs, e1, e⟩ := bind_ok e
    split at e
    · rename_i hl
      cases e
      obtain ⟨a1, us, rfl, q1, p1⟩ := kids_list rl va e1
      have l1 := p1.length
      exact op_rep pins s σ H _ _ v u Q I rx ry ⟨_, _, _, rfl, int_of rl vb, q1, hl.1, hl.2.1, by rw [l1]; exact hl.2.2, new_lst_end rl (dq_flat p1 _) k⟩
    · cases e
  · cases e

/-! ### == and != -/
/-- == of the two is told by the model -/
def eqOk (d e : D) : Bool := match d, e with
  | .str _, .str _ => true
  | _, _ => SeqAt.shaped d && SeqAt.shaped e
def semEq : Sem2 := fun a b => if eqOk a.2 b.2 then .ok (.sh, .bool (PyData.eqv a.2 b.2)) else stk
def semNe : Sem2 := fun a b => if eqOk a.2 b.2 then .ok (.sh, .bool (!PyData.eqv a.2 b.2)) else stk
theorem eqv_str (x y : Str) : PyData.eqv (.str x) (.str y) = (x == y) := by simp [PyData.eqv]
theorem o_eq (hu : X.A.units + 64 < cLine) (hK : c.K = X.K) : OpR X (compareOp .Eq) (r2D c semEq) := by
  intro pins s σ H x y v u Q I rx ry h
  obtain ⟨G, L, ra, rb, r, rl, va, vb, e, k⟩ := h
  obtain ⟨m, d⟩ := ra
  obtain ⟨n, d'⟩ := rb
  have h1 := va.dp rl
  have h2 := vb.dp rl
  rw [hK] at h1 h2
  unfold semEq at e
  split at e
  · rename_i hc
    cases e
    by_cases hs : ∃ a b, d = .str a ∧ d' = .str b
    · obtain ⟨a, b, rfl, rfl⟩ := hs
      cases h1
      cases h2
      refine op_eq pins s σ H _ _ v u Q I rx ry ⟨rfl, ?_⟩
      rw [dec_str, ← eqv_str]
      exact r2_end rl k rfl (.bl _)
    · have hc' : (SeqAt.shaped d && SeqAt.shaped d') = true := by
        cases d <;> cases d' <;> first | exact hc | exact absurd ⟨_, _, rfl, rfl⟩ hs
      rw [Bool.and_eq_true] at hc'
      exact op_eqD hu pins s σ H _ _ v u Q I rx ry ⟨d, d', h1, h2, hc'.1, hc'.2, r2_end rl k rfl (.bl _)⟩
  · cases e
theorem o_ne (hu : X.A.units + 64 < cLine) (hK : c.K = X.K) : OpR X (compareOp .NotEq) (r2D c semNe) := by
  intro pins s σ H x y v u Q I rx ry h
  obtain ⟨G, L, ra, rb, r, rl, va, vb, e, k⟩ := h
  obtain ⟨m, d⟩ := ra
  obtain ⟨n, d'⟩ := rb
  have h1 := va.dp rl
  have h2 := vb.dp rl
  rw [hK] at h1 h2
  unfold semNe at e
  split at e
  · rename_i hc
    cases e
    by_cases hs : ∃ a b, d = .str a ∧ d' = .str b
    · obtain ⟨a, b, rfl, rfl⟩ := hs
      cases h1
      cases h2
      refine op_ne pins s σ H _ _ v u Q I rx ry ⟨rfl, ?_⟩
      rw [dec_str, ← eqv_str]
      exact r2_end rl k rfl (.bl _)
    · have hc' : (SeqAt.shaped d && SeqAt.shaped d') = true := by
        cases d <;> cases d' <;> first | exact hc | exact absurd ⟨_, _, rfl, rfl⟩ hs
      rw [Bool.and_eq_true] at hc'
      exact op_neD hu pins s σ H _ _ v u Q I rx ry ⟨d, d', h1, h2, hc'.1, hc'.2, r2_end rl k rfl (.bl _)⟩
  · cases e
def isNoneD : D → Bool
  | .none => true
  | _ => false
/-! ### < -/
def semLt : Sem2 := fun a b => match a.2, b.2 with
  | .int i, .int j => .ok (.sh, .bool (decide (i < j)))
  | .str x, .str y => .ok (.sh, .bool (decide (x.cps.toList < y.cps.toList)))
  | d, e => if PySem.W.alike d e && decide (min d.depth e.depth ≤ 64) && !isNoneD d then .ok (.sh, .bool (PySem.W.dataLt d e)) else stk
theorem o_lt (hu : X.A.units + 64 < cLine) (hK : c.K = X.K) : OpR X (compareOp .Lt) (r2D c semLt) := by
  intro pins s σ H x y v u Q I rx ry h
  obtain ⟨G, L, ra, rb, r, rl, va, vb, e, k⟩ := h
  obtain ⟨m, d⟩ := ra
  obtain ⟨n, d'⟩ := rb
  have h1 := va.dp rl
  have h2 := vb.dp rl
  rw [hK] at h1 h2
  unfold semLt at e
  simp only at e
  split at e
  · cases e
    exact op_lt pins s σ H x y v u Q I rx ry ⟨_, _, int_of rl va, int_of rl vb, r2_end rl k rfl (.bl _)⟩
  · cases e
    exact op_lt_str pins s σ H x y v u Q I rx ry ⟨_, _, str_of rl va, str_of rl vb, r2_end rl k rfl (.bl _)⟩
  · split at e
    · rename_i hc
      have e' := Except.ok.inj e
      subst e'
      rw [Bool.and_eq_true, Bool.and_eq_true, decide_eq_true_eq] at hc
      obtain ⟨as, r1⟩ := Dp.reads I _ x v h1 rx
      obtain ⟨bs, r2⟩ := Dp.reads I _ y u h2 ry
      have hn : d ≠ .none := by
        intro z
        subst z
        exact absurd hc.2 (by simp [isNoneD])
      have q := PySem.W.rcLt_alike _ _ X.A s v u as bs r1 r2 hc.1.1 hn (by have := hc.1.2; simp only at this ⊢; omega)
      exact q X.prog X.w X.xe (EP X pins σ Q) ⟨.bl _, H, I, rfl, r2_end rl k rfl (.bl _)⟩
    · cases e
/-! ### is -/
def semIs : Sem2 := fun a b => match a.2, b.2 with
  | .bool p, .bool q => .ok (.sh, .bool (decide (p = q)))
  | d, .none => .ok (.sh, .bool (isNoneD d))
  | _, _ => stk
def semIsNot : Sem2 := fun a b => match a.2, b.2 with
  | .bool p, .bool q => .ok (.sh, .bool (!decide (p = q)))
  | d, .none => .ok (.sh, .bool (!isNoneD d))
  | _, _ => stk
theorem is_non {c : Gh} {H : Hp} {v : V} {d : D} (h : Dp c.K H v d) : decide (v = .non) = (isNoneD d) := by
  cases h <;> rfl
theorem o_is : OpR X (compareOp .Is) (r2D c semIs) := by
  intro pins s σ H x y v u Q I rx ry h
  obtain ⟨G, L, ra, rb, r, rl, va, vb, e, k⟩ := h
  obtain ⟨m, d⟩ := ra
  obtain ⟨n, d'⟩ := rb
  unfold semIs at e
  simp only at e
  split at e
  · cases e
    exact op_isBl pins s σ H x y v u Q I rx ry ⟨_, _, bl_of rl va, bl_of rl vb, r2_end rl k rfl (.bl _)⟩
  · cases e
    refine op_isN pins s σ H x y v u Q I rx ry ⟨non_of rl vb, ?_⟩
    have h1 := va.dp rl
    rw [is_non h1]
    exact r2_end rl k rfl (.bl _)
  · cases e
theorem not_is_non {c : Gh} {H : Hp} {v : V} {d : D} (h : Dp c.K H v d) : (!decide (v = .non)) = (!isNoneD d) := by
  cases h <;> rfl
theorem o_isnot : OpR X (compareOp .IsNot) (r2D c semIsNot) := by
  intro pins s σ H x y v u Q I rx ry h
  obtain ⟨G, L, ra, rb, r, rl, va, vb, e, k⟩ := h
  obtain ⟨m, d⟩ := ra
  obtain ⟨n, d'⟩ := rb
  unfold semIsNot at e
  simp only at e
  split at e
  · cases e
    exact op_notBl pins s σ H x y v u Q I rx ry ⟨_, _, bl_of rl va, bl_of rl vb, r2_end rl k rfl (.bl _)⟩
  · cases e
    refine op_notN pins s σ H x y v u Q I rx ry ⟨non_of rl vb, ?_⟩
    have h1 := va.dp rl
    rw [not_is_non h1]
    exact r2_end rl k rfl (.bl _)
  · cases e
/-! ### in -/
def subStr (x y : Str) : Bool := !(Builtin.Str.occurrences y x 0 y.length 1).isEmpty
def semInB : MV → MV → M Bool := fun a b => match b.2 with
  | .list ds => if SeqAt.shaped a.2 && SeqAt.shaped (.list ds) then .ok (ds.any fun z => PyData.eqv z a.2) else stk
  | .tuple ds => if SeqAt.shaped a.2 && SeqAt.shaped (.tuple ds) then .ok (ds.any fun z => PyData.eqv z a.2) else stk
  | .str y => match a.2 with
    | .str x => .ok (subStr x y)
    | _ => stk
  | _ => stk
def semIn : Sem2 := fun a b => do
  let t ← semInB a b
  pure (.sh, .bool t)
def semNotIn : Sem2 := fun a b => do
  let t ← semInB a b
  pure (.sh, .bool !t)
theorem in_room {A : Around} {d e : D} (hu : A.units + 65 < cLine) (h : SeqAt.shaped d = true) (n : Nat) : A.units + 1 + min n d.depth < cLine := by
  unfold SeqAt.shaped at h
  rw [Bool.and_eq_true, decide_eq_true_eq] at h
  omega
theorem o_in_core {op : CmpOp} {neg : Bool} (hop : (op = .In ∧ neg = false) ∨ (op = .NotIn ∧ neg = true)) (hu : X.A.units + 65 < cLine) (hK : c.K = X.K) {pins : List (Addr × Obj)} {s : Shared} {σ : L2.St} {H : Hp} {x y : V} {v u : Value} {Q : VK} (I : Inv X pins σ H s) (rx : RelV x v) (ry : RelV y u)
    {G : Hp} {L : List T3} {ra rb : MV} {t : Bool} (rl : Rel c G H L) (va : View c G H ra x) (vb : View c G H rb y) (e : semInB ra rb = .ok t) (q : Q (.bl (if neg then !t else t)) H) : wpAny (model X.prog X.w) X.A (compareOp op v u) (EP X pins σ Q) X.xe s := by
  obtain ⟨m, d⟩ := ra
  obtain ⟨n, d'⟩ := rb
  have h1 := va.dp rl
  have h2 := vb.dp rl
  rw [hK] at h1 h2
  unfold semInB at e
  simp only at e
  split at e
  · split at e
    · rename_i hc
      cases e
      rw [Bool.and_eq_true] at hc
      obtain ⟨as, r1⟩ := Dp.reads I _ x v h1 rx
      obtain ⟨bs, r2⟩ := Dp.reads I _ y u h2 ry
      have hr := in_room (e := d) hu hc.1
      rcases hop with ⟨rfl, rfl⟩ | ⟨rfl, rfl⟩
      · exact SeqAt.in_list_reads r2 r1 (SeqAt.canLay_of_shaped hc.2) (SeqAt.canLay_of_shaped hc.1) (hr _) ⟨.bl _, H, I, rfl, q⟩
      · exact SeqAt.notIn_list_reads r2 r1 (SeqAt.canLay_of_shaped hc.2) (SeqAt.canLay_of_shaped hc.1) (hr _) ⟨.bl _, H, I, rfl, q⟩
    · cases e
  · split at e
    · rename_i hc
      cases e
      rw [Bool.and_eq_true] at hc
      obtain ⟨as, r1⟩ := Dp.reads I _ x v h1 rx
      obtain ⟨bs, r2⟩ := Dp.reads I _ y u h2 ry
      have hr := in_room (e := d) hu hc.1
      rcases hop with ⟨rfl, rfl⟩ | ⟨rfl, rfl⟩
      · exact SeqAt.in_tuple_reads r2 r1 (SeqAt.canLay_of_shaped hc.2) (SeqAt.canLay_of_shaped hc.1) (hr _) ⟨.bl _, H, I, rfl, q⟩
      · exact SeqAt.notIn_tuple_reads r2 r1 (SeqAt.canLay_of_shaped hc.2) (SeqAt.canLay_of_shaped hc.1) (hr _) ⟨.bl _, H, I, rfl, q⟩
    · cases e
  · split at e
    · cases e
      rcases hop with ⟨rfl, rfl⟩ | ⟨rfl, rfl⟩
      · exact op_in_str pins s σ H x y v u Q I rx ry ⟨_, _, str_of rl va, str_of rl vb, q⟩
      · exact op_notin_str pins s σ H x y v u Q I rx ry ⟨_, _, str_of rl va, str_of rl vb, q⟩
    · cases e
  · cases e
theorem o_in (hu : X.A.units + 65 < cLine) (hK : c.K = X.K) : OpR X (compareOp .In) (r2D c semIn) := by
  intro pins s σ H x y v u Q I rx ry h
  obtain ⟨G, L, ra, rb, r, rl, va, vb, e, k⟩ := h
  obtain ⟨t, e1, e⟩ := bind_ok e
  cases e
  exact o_in_core (.inl ⟨rfl, rfl⟩) hu hK I rx ry rl va vb e1 (r2_end rl k rfl (.bl _))
theorem o_notin (hu : X.A.units + 65 < cLine) (hK : c.K = X.K) : OpR X (compareOp .NotIn) (r2D c semNotIn) := by
  intro pins s σ H x y v u Q I rx ry h
  obtain ⟨G, L, ra, rb, r, rl, va, vb, e, k⟩ := h
  obtain ⟨t, e1, e⟩ := bind_ok e
  cases e
  exact o_in_core (.inr ⟨rfl, rfl⟩) hu hK I rx ry rl va vb e1 (r2_end rl k rfl (.bl _))
/-! ### - -/
def fUn (g : MV → M MV) (f : FE) : FE := fun S => do
  let (r, S1) ← f S
  let z ← g r
  pure (z, S1)
def semNeg : MV → M MV := fun a => match a.2 with
  | .int i => .ok (.sh, .int (-i))
  | _ => stk
theorem de_neg {a : Expr} {f : FE} {pos : Pos} (ha : PE X a (tE c f)) : PE X (.UnaryOp .USub a pos) (tE c (fUn semNeg f)) := by
  refine pemono (pe_un un_neg ha) fun σ H Q h => ?_
  obtain ⟨G, S, R, ok, r, S', e, k⟩ := h
  obtain ⟨⟨r1, S1⟩, e1, e⟩ := bind_ok e
  obtain ⟨z, e2, e⟩ := bind_ok e
  cases e
  refine ⟨G, S, R, ok, r1, _, e1, fun G' v H' s ok' => ?_⟩
  obtain ⟨m, d⟩ := r1
  unfold semNeg at e2
  simp only at e2
  split at e2
  · cases e2
    have hv := ok'.rel.view (m := m) (v := v) List.mem_cons_self
    exact ⟨_, int_of ok'.rel hv, k G' _ H' s ⟨ok'.cov, ok'.rel.drop.put_sh (.int _)⟩⟩
  · cases e2
end
end O
set_option maxRecDepth 100000
namespace O
open PySem PySem.Spec PyProof.Rows L2

/-! ### given to all at once -/
def giveR : MV → M MV
  | (m, d) => if m.gives then .ok (.sh, d) else if flatD d then .ok (.sh, d) else stk
def fSh (f : FE) : FE := fun S => do
  let (r, S1) ← f S
  let z ← giveR r
  pure (z, S1)
theorem Rel.give {c : Gh} {G H : Hp} {r z : MV} {v : V} {L : List T3} (rl : Rel c G H ((r.1, v, r.2) :: L)) (h : giveR r = .ok z) : z = (.sh, r.2) ∧ ∃ G', Sub G G' ∧ Rel c G' H ((.sh, v, r.2) :: L) := by
  obtain ⟨m, d⟩ := r
  unfold giveR at h
  simp only at h
  split at h
  · rename_i hm
    cases h
    exact ⟨rfl, rl.share hm⟩
  · split at h
    · rename_i hm hf
      cases h
      refine ⟨rfl, G, Sub.refl G, rl.drop.put_sh ?_⟩
      have h2 := (rl.view (m := m) (v := v) (d := d) List.mem_cons_self)
      obtain ⟨F, h2⟩ := h2
      cases m with
      | sh => exact h2.2
      | bo => exact Dq.flat hf h2.2
      | bx =>
        obtain ⟨_, _, _, _, _, _, _, hd, _⟩ := h2
        simp only at hd
        subst hd
        cases hf
      | ow m =>
        obtain ⟨a, vs, ds, Fs, _, hd, _⟩ := h2
        simp only at hd
        subst hd
        cases hf
    · cases h
section
variable {X : Cx} {c : Gh}
theorem de_sh {e : Expr} {f : FE} (h : PE X e (tE c f)) : PE X e (tE c (fSh f)) := by
  refine pemono h fun σ H Q q => ?_
  obtain ⟨G, S, R, ok, z, S', e, k⟩ := q
  obtain ⟨⟨r, S1⟩, e1, e⟩ := bind_ok e
  obtain ⟨z', e2, e⟩ := bind_ok e
  cases e
  refine ⟨G, S, R, ok, r, _, e1, fun G' v H' s ok' => ?_⟩
  obtain ⟨hz, G2, s2, rl2⟩ := Rel.give ok'.rel e2
  subst hz
  exact k G2 v H' (s.trans s2) ⟨ok'.cov, rl2⟩

/-! ### arguments -/
abbrev FA := SS → M (List Tk × SS)
def tkRs : List Tk → List V → List T3
  | t :: ts, v :: vs => tkR t v ++ tkRs ts vs
  | _, _ => []
inductive TkOks (σ : L2.St) : List Tk → List V → Prop
  | nil : TkOks σ [] []
  | cons {t ts v vs} : tkOk σ t v → TkOks σ ts vs → TkOks σ (t :: ts) (v :: vs)
def tA (c : Gh) (f : FA) : TA := fun σ H Q => ∃ G S R, SOk c G H σ S R ∧ ∃ ts S', f S = .ok (ts, S') ∧ ∀ G' vs H', Sub G G' → TkOks σ ts vs → SOk c G' H' σ S' (tkRs ts vs ++ R) → Q vs H'
def aNil : FA := fun S => .ok ([], S)
def aCons (o : FO) (f : FA) : FA := fun S => do
  let (t, S1) ← o S
  let (ts, S2) ← f S1
  pure (t :: ts, S2)
theorem da_nil : PA X [] (tA c aNil) := ⟨fun pos pins s σ H Q I h => by
  obtain ⟨G, S, R, ok, ts, S', e, k⟩ := h
  cases e
  exact pa_nil.run pos pins s σ H Q I (k G [] H (Sub.refl G) .nil ok)⟩
theorem da_cons {e : Expr} {es : List Expr} {o : FO} {f : FA} (ha : PE X e (tO c o)) (hr : PA X es (tA c f)) (hs : starEach (e :: es) X.env = (false, eval e X.env) :: starEach es X.env := by rfl) : PA X (e :: es) (tA c (aCons o f)) := ⟨fun pos pins s σ H Q I h => by
  obtain ⟨G, S, R, ok, ts, S', e, k⟩ := h
  obtain ⟨⟨t, S1⟩, e1, e⟩ := bind_ok e
  obtain ⟨⟨ts', S2⟩, e2, e⟩ := bind_ok e
  cases e
  refine (pa_cons ha hr hs).run pos pins s σ H Q I ⟨G, S, R, ok, t, S1, e1, fun G1 v H1 s1 h1 ok1 => ?_⟩
  refine ⟨G1, S1, _, ok1, ts', _, e2, fun G2 vs H2 s2 h2 ok2 => ?_⟩
  refine k G2 (v :: vs) H2 (s1.trans s2) (.cons h1 h2) ⟨ok2.cov, ok2.rel.perm ?_⟩
  refine List.Perm.append_right _ ?_
  show (tkRs ts' vs ++ (tkR t v ++ R)).Perm ((tkR t v ++ tkRs ts' vs) ++ R)
  rw [← List.append_assoc]
  exact List.perm_append_comm.append_right R⟩
inductive Views (c : Gh) (G H : Hp) : List MV → List V → Prop
  | nil : Views c G H [] []
  | cons {r rs v vs} : View c G H r v → Views c G H rs vs → Views c G H (r :: rs) (v :: vs)
def tkGets : List Tk → SS → M (List MV)
  | [], _ => .ok []
  | t :: ts, S => do
    let r ← tkGet t S
    let rs ← tkGets ts S
    pure (r :: rs)
theorem tks_views {c : Gh} {G H : Hp} {σ : L2.St} {S : SS} {R' : List T3} (ok : SOk c G H σ S R') : ∀ {ts : List Tk} {vs : List V} {rs : List MV}, (∀ x ∈ tkRs ts vs, x ∈ R') → TkOks σ ts vs → tkGets ts S = .ok rs → Views c G H rs vs := by
  intro ts
  induction ts with
  | nil => intro vs rs _ h e; cases h; cases e; exact .nil
  | cons t ts ih =>
    intro vs rs hR h e
    cases h with
    | cons h1 h2 =>
      obtain ⟨r, e1, e⟩ := bind_ok e
      obtain ⟨rs', e2, e⟩ := bind_ok e
      cases e
      exact .cons (tk_view (R := R') ok (fun x hx => hR x (List.mem_append_left _ hx)) h1 e1) (ih (fun x hx => hR x (List.mem_append_right _ hx)) h2 e2)
abbrev SemN := List MV → M MV
def rND (c : Gh) (sem : SemN) : List V → Hp → VK → Prop := fun vs H Q => ∃ G L rs r, Rel c G H L ∧ Views c G H rs vs ∧ sem rs = .ok r ∧ ∀ G' v H', Sub G G' → Rel c G' H' ((r.1, v, r.2) :: L) → Q v H'
def fN (sem : SemN) (f : FA) : FE := fun S => do
  let (ts, S1) ← f S
  let rs ← tkGets ts S1
  let r ← sem rs
  pure (r, S1)
theorem n_read {c : Gh} {sem : SemN} {f : FA} {σ : L2.St} {H : Hp} {Q : VK} (h : tE c (fN sem f) σ H Q) : tA c f σ H fun vs H1 => rND c sem vs H1 Q := by
  obtain ⟨G, S, R, ok, r, S', e, k⟩ := h
  obtain ⟨⟨ts, S1⟩, e1, e⟩ := bind_ok e
  obtain ⟨rs, e2, e⟩ := bind_ok e
  obtain ⟨r', e3, e⟩ := bind_ok e
  cases e
  refine ⟨G, S, R, ok, ts, _, e1, fun G1 vs H1 s1 h1 ok1 => ?_⟩
  refine ⟨G1, _, rs, r, ok1.rel, tks_views ok1 (fun x hx => List.mem_append_left _ hx) h1 e2, e3, fun G' v H' s rl => ?_⟩
  refine k G' v H' (s1.trans s) ⟨ok1.cov, rl.sublist (List.Sublist.cons_cons _ (List.Sublist.append_right (List.sublist_append_right _ _) _))⟩

/-! ### displays -/
def allSh : List MV → M (List D)
  | [] => .ok []
  | (.sh, d) :: rs => do
    let ds ← allSh rs
    pure (d :: ds)
  | _ => stk
theorem views_sh {c : Gh} {G H : Hp} : ∀ {rs : List MV} {vs : List V} {ds : List D}, Views c G H rs vs → allSh rs = .ok ds → DqAll c.K G vs ds := by
  intro rs
  induction rs with
  | nil => intro vs ds h e; cases h; cases e; exact .nil
  | cons r rs ih =>
    intro vs ds h e
    obtain ⟨m, d⟩ := r
    cases h with
    | cons h1 h2 =>
      cases m with
      | sh =>
        obtain ⟨ds', e1, e⟩ := bind_ok e
        cases e
        exact .cons (sh_dq h1) (ih h2 e1)
      | bo => cases e
      | bx => cases e
      | ow m => cases e
def semTup : SemN := fun rs => do
  let ds ← allSh rs
  if ds.length ≤ sizeLine then pure (.sh, .tuple ds) else stk
def semLst : SemN := fun rs => do
  let ds ← allSh rs
  if ds.length ≤ sizeLine then pure (.ow .sh, .list ds) else stk
theorem de_tup {es : List Expr} {f : FA} {x1 pos} (h : PA X es (tA c f)) : PE X (.Tuple es x1 pos) (tE c (fN semTup f)) := by
  refine pemono (pe_tup h) fun σ H Q q => ?_
  obtain ⟨G, S, R, ok, ts, S', e, k⟩ := n_read q
  refine ⟨G, S, R, ok, ts, S', e, fun G' vs H' s h1 ok' => ?_⟩
  obtain ⟨G2, L, rs, r, rl, hv, e2, k2⟩ := k G' vs H' s h1 ok'
  obtain ⟨ds, e3, e2⟩ := bind_ok e2
  split at e2
  · rename_i hl
    cases e2
    have hd := views_sh hv e3
    exact ⟨by rw [hd.length]; exact hl, new_tup_end rl hd k2⟩
  · cases e2
theorem de_lst {es : List Expr} {f : FA} {pos} (h : PA X es (tA c f)) : PE X (.List es pos) (tE c (fN semLst f)) := by
  refine pemono (pe_lst h) fun σ H Q q => ?_
  obtain ⟨G, S, R, ok, ts, S', e, k⟩ := n_read q
  refine ⟨G, S, R, ok, ts, S', e, fun G' vs H' s h1 ok' => ?_⟩
  obtain ⟨G2, L, rs, r, rl, hv, e2, k2⟩ := k G' vs H' s h1 ok'
  obtain ⟨ds, e3, e2⟩ := bind_ok e2
  split at e2
  · rename_i hl
    cases e2
    have hd := views_sh hv e3
    exact ⟨by rw [hd.length]; exact hl, new_lst_end rl hd k2⟩
  · cases e2

/-! ### calls of built-ins -/
theorem de_callB {id : String} {sem : SemN} {x : Str} {e : Expr} {es : List Expr} {f : FA} {p pos : Pos} (hc : CallR X (.builtin id) (rND c sem)) (hg : Gl X x) (hm : X.mg x = none) (hv : bootBuiltins x = some (.builtin id)) (ha : PA X (e :: es) (tA c f)) (hn : x ≠ "__name__" := by decide) (hdb : (x == ("__debug__" : Str)) = false := by decide)
    (he : starEach (e :: es) X.env = (false, eval e X.env) :: starEach es X.env := by rfl) (hpl : (backTo pos (starEach es X.env)).any (·.1) = false := by rfl) : PE X (.Call (.Name x p) (e :: es) [] pos) (tE c (fN sem f)) :=
  pemono (pe_callB hc hg hm hv ha hn hdb he hpl) fun _ _ _ h => n_read h
theorem de_callTy {T : String} {sem : SemN} {x : Str} {e : Expr} {es : List Expr} {f : FA} {p pos : Pos} (hc : CallR X (.type T) (rND c sem)) (hg : Gl X x) (hm : X.mg x = none) (hv : bootBuiltins x = some (.type T)) (ha : PA X (e :: es) (tA c f)) (hn : x ≠ "__name__" := by decide) (hdb : (x == ("__debug__" : Str)) = false := by decide)
    (he : starEach (e :: es) X.env = (false, eval e X.env) :: starEach es X.env := by rfl) (hpl : (backTo pos (starEach es X.env)).any (·.1) = false := by rfl) : PE X (.Call (.Name x p) (e :: es) [] pos) (tE c (fN sem f)) :=
  pemono (pe_callTy hc hg hm hv ha hn hdb he hpl) fun _ _ _ h => n_read h

/-! len -/
def semLen : SemN := fun rs => match rs with
  | [r] => match r.2 with
    | .list ds => .ok (.sh, .int ds.length)
    | .tuple ds => .ok (.sh, .int ds.length)
    | .str x => if x.length ≤ sizeLine then .ok (.sh, .int x.length) else stk
    | _ => stk
  | _ => stk
theorem dpAll_len {K : PySem.W.Frag} {G : Hp} : ∀ {vs : List V} {ds : List D}, DpAll K G vs ds → vs.length = ds.length
  | _, _, .nil => rfl
  | _, _, .cons _ t => by rw [List.length_cons, List.length_cons, dpAll_len t]
theorem views1 {c : Gh} {G H : Hp} {r : MV} {vs : List V} (h : Views c G H [r] vs) : ∃ v, vs = [v] ∧ View c G H r v := by
  cases h with
  | cons a t => cases t; exact ⟨_, rfl, a⟩
theorem views2 {c : Gh} {G H : Hp} {r q : MV} {vs : List V} (h : Views c G H [r, q] vs) : ∃ v w, vs = [v, w] ∧ View c G H r v ∧ View c G H q w := by
  cases h with
  | cons a t =>
    cases t with
    | cons b t => cases t; exact ⟨_, _, rfl, a, b⟩
theorem c_len (hK : c.K = X.K) : CallR X (.builtin "len") (rND c semLen) := by
  intro pins s σ H xs us Q I rv h
  obtain ⟨G, L, rs, r, rl, hv, e, k⟩ := h
  unfold semLen at e
  split at e
  · rename_i r0
    obtain ⟨v, rfl, hw⟩ := views1 hv
    have hd := hw.dp rl
    rw [hK] at hd
    obtain ⟨m, d⟩ := r0
    simp only at e hd
    split at e
    · cases e
      cases hd with
      | lst a b => exact call_len_seq pins s σ H _ us Q I rv ⟨_, _, rfl, .inl a, by rw [dpAll_len b]; exact r2_end rl k rfl (.int _)⟩
    · cases e
      cases hd with
      | tup a b => exact call_len_seq pins s σ H _ us Q I rv ⟨_, _, rfl, .inr a, by rw [dpAll_len b]; exact r2_end rl k rfl (.int _)⟩
    · split at e
      · rename_i hl
        cases e
        cases hd
        exact call_len_str pins s σ H _ us Q I rv ⟨_, rfl, hl, r2_end rl k rfl (.int _)⟩
      · cases e
    · cases e
  · cases e
/-! isinstance(x, T), T a name -/
inductive PT5 where
  | int | bool | str | tuple | list
def PT5.name : PT5 → String
  | .int => "int" | .bool => "bool" | .str => "str" | .tuple => "tuple" | .list => "list"
def PT5.is : PT5 → D → Bool
  | .int, d => match d with | .int _ => true | .bool _ => true | _ => false
  | .bool, d => match d with | .bool _ => true | _ => false
  | .str, d => match d with | .str _ => true | _ => false
  | .tuple, d => match d with | .tuple _ => true | _ => false
  | .list, d => match d with | .list _ => true | _ => false
def rIsT (K : PySem.W.Frag) (T : PT5) : List V → Hp → VK → Prop := fun vs H Q => ∃ v d, vs = [v, .ty T.name] ∧ Dp K H v d ∧ Q (.bl (T.is d)) H
theorem c_isT (T : PT5) : CallR X (.builtin "isinstance") (rIsT X.K T) := by
  intro pins s σ H xs us Q I rv h
  obtain ⟨v, d, rfl, hd, q⟩ := h
  cases rv with
  | cons r1 rv =>
    cases rv with
    | cons r2 rv =>
      cases rv
      cases r2
      obtain ⟨as, rd⟩ := Dp.reads I d v _ hd r1
      have fin : ∀ (b : Bool), b = T.is d → ∀ tk, s.toks ≤ tk → EP X pins σ Q (.bool b) { s with toks := tk } := fun b eb tk htk => by
        subst eb
        exact ⟨.bl _, H, I.tok tk, rfl, q⟩
      cases T with
      | int => exact PySem.W.isinstance_int_data rd (fin _ (by cases d <;> rfl))
      | bool => exact PySem.W.isinstance_bool_data rd (fin _ (by cases d <;> rfl))
      | str => exact PySem.W.isinstance_str_data rd (fin _ (by cases d <;> rfl))
      | tuple => exact PySem.W.isinstance_tuple_data rd (fin _ (by cases d <;> rfl))
      | list => exact PySem.W.isinstance_list_data rd (fin _ (by cases d <;> rfl))
/-- a test of the kind, or another reading that gives no object -/
def fO1 (g : MV → M MV) (o : FO) : FE := fun S => do
  let (t, S1) ← o S
  let r ← tkGet t S1
  let z ← g r
  pure (z, S1)
def semIsT (T : PT5) : MV → M MV := fun r => .ok (.sh, .bool (T.is r.2))
theorem de_isT {e : Expr} {x : Str} {o : FO} {p p2 pos : Pos} (T : PT5) (hK : c.K = X.K) (hg : Gl X "isinstance") (hm : X.mg "isinstance" = none) (hg2 : Gl X x) (hm2 : X.mg x = none) (hv2 : bootBuiltins x = some (.type T.name)) (ha : PE X e (tO c o))
    (hv : bootBuiltins "isinstance" = some (.builtin "isinstance") := by decide +kernel) (hn2 : x ≠ "__name__" := by decide) (hdb2 : (x == ("__debug__" : Str)) = false := by decide)
    (he : starEach [e, .Name x p2] X.env = (false, eval e X.env) :: starEach [.Name x p2] X.env := by rfl) (he2 : starEach [.Name x p2] X.env = (false, eval (.Name x p2) X.env) :: starEach [] X.env := by rfl) (hpl : (backTo pos (starEach [.Name x p2] X.env)).any (·.1) = false := by rfl) :
    PE X (.Call (.Name "isinstance" p) [e, .Name x p2] [] pos) (tE c (fO1 (semIsT T) o)) := by
  refine pemono (pe_callB (c_isT T) hg hm hv (pa_cons ha (pa_cons (pe_bltn hg2 hm2 hv2 (v := .ty T.name) rfl hn2 hdb2) pa_nil he2) he) (by decide) (by decide) he hpl) fun σ H Q h => ?_
  obtain ⟨G, S, R, ok, r, S', e, k⟩ := h
  obtain ⟨⟨t, S1⟩, e1, e⟩ := bind_ok e
  obtain ⟨r1, e2, e⟩ := bind_ok e
  cases e
  refine ⟨G, S, R, ok, t, _, e1, fun G1 v H1 s1 h1 ok1 => ?_⟩
  refine ⟨v, r1.2, rfl, ?_, ?_⟩
  · rw [← hK]
    exact (tk_view (R := R) ok1 (fun t ht => List.mem_append_left _ ht) h1 e2).dp ok1.rel
  · exact k G1 _ H1 s1 ⟨ok1.cov, (ok1.rel.sublist (List.Sublist.append_right (List.sublist_append_right _ _) _)).put_sh (.bl _)⟩
/-! int(i), str(i), abs(i) -/
def semInt1 : SemN := fun rs => match rs with
  | [r] => match r.2 with
    | .int i => .ok (.sh, .int i)
    | .bool b => .ok (.sh, .int (if b then 1 else 0))
    | _ => stk
  | _ => stk
theorem c_int : CallR X (.type "int") (rND c semInt1) := by
  intro pins s σ H xs us Q I rv h
  obtain ⟨G, L, rs, r, rl, hv, e, k⟩ := h
  unfold semInt1 at e
  split at e
  · rename_i r0
    obtain ⟨v, rfl, hw⟩ := views1 hv
    obtain ⟨m, d⟩ := r0
    simp only at e
    split at e
    · cases e
      exact call_int1 pins s σ H _ us Q I rv (.inl ⟨_, by rw [int_of rl hw], r2_end rl k rfl (.int _)⟩)
    · cases e
      exact call_int1 pins s σ H _ us Q I rv (.inr ⟨_, by rw [bl_of rl hw], r2_end rl k rfl (.int _)⟩)
    · cases e
  · cases e
def semStr1 : SemN := fun rs => match rs with
  | [r] => match r.2 with
    | .int i => if i.natAbs.log2 < 1920 then .ok (.sh, .str (toString i)) else stk
    | _ => stk
  | _ => stk
theorem c_str : CallR X (.type "str") (rND c semStr1) := by
  intro pins s σ H xs us Q I rv h
  obtain ⟨G, L, rs, r, rl, hv, e, k⟩ := h
  unfold semStr1 at e
  split at e
  · rename_i r0
    obtain ⟨v, rfl, hw⟩ := views1 hv
    obtain ⟨m, d⟩ := r0
    simp only at e
    split at e
    · split at e
      · rename_i hl
        cases e
        exact call_str_int pins s σ H _ us Q I rv ⟨_, by rw [int_of rl hw], hl, r2_end rl k rfl (.str _)⟩
      · cases e
    · cases e
  · cases e
def semAbs : SemN := fun rs => match rs with
  | [r] => match r.2 with
    | .int i => .ok (.sh, .int (if i < 0 then -i else i))
    | _ => stk
  | _ => stk
theorem c_abs : CallR X (.builtin "abs") (rND c semAbs) := by
  intro pins s σ H xs us Q I rv h
  obtain ⟨G, L, rs, r, rl, hv, e, k⟩ := h
  unfold semAbs at e
  split at e
  · rename_i r0
    obtain ⟨v, rfl, hw⟩ := views1 hv
    obtain ⟨m, d⟩ := r0
    simp only at e
    split at e
    · cases e
      exact call_abs pins s σ H _ us Q I rv ⟨_, by rw [int_of rl hw], r2_end rl k rfl (.int _)⟩
    · cases e
  · cases e
/-! all, any, sum of a list; list(x), tuple(x) -/
def boolsOf : List D → M (List Bool)
  | [] => .ok []
  | .bool b :: ds => do
    let bs ← boolsOf ds
    pure (b :: bs)
  | _ => stk
def intsOf : List D → M (List Int)
  | [] => .ok []
  | .int b :: ds => do
    let bs ← intsOf ds
    pure (b :: bs)
  | _ => stk
theorem bools_vals {K : PySem.W.Frag} {G : Hp} : ∀ {ds : List D} {vs : List V} {bs : List Bool}, DqAll K G vs ds → boolsOf ds = .ok bs → vs = bs.map V.bl := by
  intro ds
  induction ds with
  | nil => intro vs bs h e; cases h; cases e; rfl
  | cons d ds ih =>
    intro vs bs h e
    cases h with
    | cons h1 h2 =>
      cases d with
      | bool b =>
        obtain ⟨bs', e1, e⟩ := bind_ok e
        cases e
        cases h1
        rw [ih h2 e1]; rfl
      | _ => cases e
theorem ints_vals {K : PySem.W.Frag} {G : Hp} : ∀ {ds : List D} {vs : List V} {bs : List Int}, DqAll K G vs ds → intsOf ds = .ok bs → vs = bs.map V.int := by
  intro ds
  induction ds with
  | nil => intro vs bs h e; cases h; cases e; rfl
  | cons d ds ih =>
    intro vs bs h e
    cases h with
    | cons h1 h2 =>
      cases d with
      | int b =>
        obtain ⟨bs', e1, e⟩ := bind_ok e
        cases e
        cases h1
        rw [ih h2 e1]; rfl
      | _ => cases e
/-- the items, if it is a list -/
def kidsL (r : MV) : M (List D) := match r.2 with
  | .list _ => kids r
  | _ => stk
theorem kidsL_ok {c : Gh} {G H : Hp} {L : List T3} (rl : Rel c G H L) {r : MV} {v : V} {ds : List D} (h : View c G H r v) (k : kidsL r = .ok ds) : ∃ a vs, v = .ref a ∧ H a = some (.lst vs) ∧ DqAll c.K G vs ds := by
  obtain ⟨m, d⟩ := r
  cases d with
  | list es => exact kids_list rl h k
  | _ => cases k
def semAll : SemN := fun rs => match rs with
  | [r] => do
    let ds ← kidsL r
    let bs ← boolsOf ds
    pure (.sh, .bool (bs.all id))
  | _ => stk
def semAny : SemN := fun rs => match rs with
  | [r] => do
    let ds ← kidsL r
    let bs ← boolsOf ds
    pure (.sh, .bool (bs.any id))
  | _ => stk
def semSum : SemN := fun rs => match rs with
  | [r] => do
    let ds ← kidsL r
    let bs ← intsOf ds
    pure (.sh, .int bs.sum)
  | _ => stk
theorem c_all (hc : X.calm = true) : CallR X (.builtin "all") (rND c semAll) := by
  intro pins s σ H xs us Q I rv h
  obtain ⟨G, L, rs, r, rl, hv, e, k⟩ := h
  unfold semAll at e
  split at e
  · obtain ⟨v, rfl, hw⟩ := views1 hv
    obtain ⟨ds, e1, e⟩ := bind_ok e
    obtain ⟨bs, e2, e⟩ := bind_ok e
    cases e
    obtain ⟨a, vs, rfl, h1, h2⟩ := kidsL_ok rl hw e1
    rw [bools_vals h2 e2] at h1
    exact cr_all hc pins s σ H _ us Q I rv ⟨a, bs, rfl, .inl (.inl h1), r2_end rl k rfl (.bl _)⟩
  · cases e
theorem c_any (hc : X.calm = true) : CallR X (.builtin "any") (rND c semAny) := by
  intro pins s σ H xs us Q I rv h
  obtain ⟨G, L, rs, r, rl, hv, e, k⟩ := h
  unfold semAny at e
  split at e
  · obtain ⟨v, rfl, hw⟩ := views1 hv
    obtain ⟨ds, e1, e⟩ := bind_ok e
    obtain ⟨bs, e2, e⟩ := bind_ok e
    cases e
    obtain ⟨a, vs, rfl, h1, h2⟩ := kidsL_ok rl hw e1
    rw [bools_vals h2 e2] at h1
    exact cr_any hc pins s σ H _ us Q I rv ⟨a, bs, rfl, .inl (.inl h1), r2_end rl k rfl (.bl _)⟩
  · cases e
theorem c_sum (hc : X.calm = true) : CallR X (.builtin "sum") (rND c semSum) := by
  intro pins s σ H xs us Q I rv h
  obtain ⟨G, L, rs, r, rl, hv, e, k⟩ := h
  unfold semSum at e
  split at e
  · obtain ⟨v, rfl, hw⟩ := views1 hv
    obtain ⟨ds, e1, e⟩ := bind_ok e
    obtain ⟨bs, e2, e⟩ := bind_ok e
    cases e
    obtain ⟨a, vs, rfl, h1, h2⟩ := kidsL_ok rl hw e1
    rw [ints_vals h2 e2] at h1
    exact cr_sum hc pins s σ H _ us Q I rv ⟨a, bs, rfl, .inl (.inl h1), r2_end rl k rfl (.int _)⟩
  · cases e
def semListOf : SemN := fun rs => match rs with
  | [r] => do
    let ds ← kids r
    pure (.ow .sh, .list ds)
  | _ => stk
def semTupOf : SemN := fun rs => match rs with
  | [(.sh, .tuple ds)] => .ok (.sh, .tuple ds)
  | [r] => do
    let ds ← kidsL r
    pure (.sh, .tuple ds)
  | _ => stk
theorem c_listOf (hK : c.K = X.K) : CallR X (.type "list") (rND c semListOf) := by
  intro pins s σ H xs us Q I rv h
  obtain ⟨G, L, rs, r, rl, hv, e, k⟩ := h
  unfold semListOf at e
  split at e
  · obtain ⟨v, rfl, hw⟩ := views1 hv
    obtain ⟨ds, e1, e⟩ := bind_ok e
    cases e
    obtain ⟨a, vs, rfl, h1, h2⟩ := hw.kids rl e1
    refine call_list_of pins s σ H _ us Q I rv ⟨a, vs, rfl, ?_, new_lst_end rl h2 k⟩
    rcases h1 with ⟨_, z⟩ | ⟨_, z⟩
    · exact .inl (.inl (.inl z))
    · rw [← hK]; exact .inr z
  · cases e
theorem c_tupOf (hK : c.K = X.K) : CallR X (.type "tuple") (rND c semTupOf) := by
  intro pins s σ H xs us Q I rv h
  obtain ⟨G, L, rs, r, rl, hv, e, k⟩ := h
  unfold semTupOf at e
  split at e
  · cases e
    obtain ⟨v, rfl, hw⟩ := views1 hv
    have hd := sh_dq hw
    cases hd with
    | tup a b => exact call_tuple_of pins s σ H _ us Q I rv ⟨_, _, rfl, .inr ⟨by rw [← hK]; exact SqT.sub rl.sub a, r2_end rl k rfl (.tup a b)⟩⟩
  · obtain ⟨v, rfl, hw⟩ := views1 hv
    obtain ⟨ds, e1, e⟩ := bind_ok e
    cases e
    obtain ⟨a, vs, rfl, h1, h2⟩ := kidsL_ok rl hw e1
    exact call_tuple_of pins s σ H _ us Q I rv ⟨a, vs, rfl, .inl ⟨.inl (.inl h1), new_tup_end rl h2 k⟩⟩
  · cases e
end
end O
set_option maxRecDepth 100000
namespace O
open PySem PySem.Spec PyProof.Rows L2

/-! ### statements -/
inductive Fl where
  | nx | bk | ct
  | rt (r : MV)
abbrev FS := SS → M (Fl × SS)
/-- the slots P are as they were -/
def Prot (P : List Nat) (σ σ' : L2.St) : Prop := σ'.length = σ.length ∧ ∀ i ∈ P, σ'[i]? = σ[i]?
theorem Prot.refl {P : List Nat} (σ : L2.St) : Prot P σ σ := ⟨rfl, fun _ _ => rfl⟩
theorem Prot.trans {P : List Nat} {a b c : L2.St} (h : Prot P a b) (k : Prot P b c) : Prot P a c := ⟨k.1.trans h.1, fun i hi => (k.2 i hi).trans (h.2 i hi)⟩
def EndD (c : Gh) (P : List Nat) (Dn : Ends) (G0 : Hp) (σ0 : L2.St) (R : List T3) (S' : SS) : Fl → Prop
  | .nx => ∀ G' σ' H', Sub G0 G' → Prot P σ0 σ' → SOk c G' H' σ' S' R → Dn.nx σ' H'
  | .bk => ∀ G' σ' H', Sub G0 G' → Prot P σ0 σ' → SOk c G' H' σ' S' R → Dn.bk σ' H'
  | .ct => ∀ G' σ' H', Sub G0 G' → Prot P σ0 σ' → SOk c G' H' σ' S' R → Dn.ct σ' H'
  | .rt r => ∀ G' v σ' H', Sub G0 G' → Prot P σ0 σ' → SOk c G' H' σ' S' ((r.1, v, r.2) :: R) → Dn.rt v H'
def tS (c : Gh) (P : List Nat) (f : FS) : TS := fun Dn σ H => ∃ G S R, SOk c G H σ S R ∧ ∃ fl S', f S = .ok (fl, S') ∧ EndD c P Dn G σ R S' fl
theorem EndD.mono {c : Gh} {P : List Nat} {Dn : Ends} {G0 G1 : Hp} {σ0 σ1 : L2.St} {R : List T3} {S' : SS} {fl : Fl} (h : EndD c P Dn G0 σ0 R S' fl) (s : Sub G0 G1) (p : Prot P σ0 σ1) : EndD c P Dn G1 σ1 R S' fl := by
  cases fl with
  | nx => exact fun G' σ' H' a b d => h G' σ' H' (s.trans a) (p.trans b) d
  | bk => exact fun G' σ' H' a b d => h G' σ' H' (s.trans a) (p.trans b) d
  | ct => exact fun G' σ' H' a b d => h G' σ' H' (s.trans a) (p.trans b) d
  | rt r => exact fun G' v σ' H' a b d => h G' v σ' H' (s.trans a) (p.trans b) d
theorem psmono {X : Cx} {st : Stmt} {t t' : TS} (h : PS X st t) (k : ∀ D σ H, t' D σ H → t D σ H) : PS X st t' := ⟨fun pins s σ H D I q => h.run pins s σ H D I (k D σ H q)⟩
theorem pssmono {X : Cx} {st : List Stmt} {t t' : TS} (h : PSs X st t) (k : ∀ D σ H, t' D σ H → t D σ H) : PSs X st t' := ⟨fun pins s σ H D I q => h.run pins s σ H D I (k D σ H q)⟩
def sNil : FS := fun S => .ok (.nx, S)
def sSeq (f g : FS) : FS := fun S => do
  let (fl, S1) ← f S
  match fl with
  | .nx => g S1
  | .bk => .ok (.bk, S1)
  | .ct => .ok (.ct, S1)
  | .rt r => .ok (.rt r, S1)
def sRet (f : FE) : FS := fun S => do
  let (r, S1) ← f S
  pure (.rt r, S1)
def sRetN : FS := fun S => .ok (.rt (.sh, .none), S)
def sIf (t : FT) (f g : FS) : FS := fun S => do
  let (b, S1) ← t S
  if b then f S1 else g S1
def sDrop (f : FE) : FS := fun S => do
  let (_, S1) ← f S
  pure (.nx, S1)
def sBk : FS := fun S => .ok (.bk, S)
def sCt : FS := fun S => .ok (.ct, S)
section
variable {X : Cx} {c : Gh} {P : List Nat} {pos : Pos}
theorem ds_nil : PSs X [] (tS c P sNil) := pssmono pss_nil fun D σ H h => by
  obtain ⟨G, S, R, ok, fl, S', e, k⟩ := h
  cases e
  exact k G σ H (Sub.refl G) (Prot.refl σ) ok
theorem seq_read {f g : FS} {Dn : Ends} {σ : L2.St} {H : Hp} (h : tS c P (sSeq f g) Dn σ H) : tSeq (tS c P f) (tS c P g) Dn σ H := by
  obtain ⟨G, S, R, ok, fl, S', e, k⟩ := h
  obtain ⟨⟨fl1, S1⟩, e1, e⟩ := bind_ok e
  refine ⟨G, S, R, ok, fl1, S1, e1, ?_⟩
  cases fl1 with
  | nx => exact fun G' σ' H' s p ok' => ⟨G', S1, R, ok', fl, S', e, k.mono s p⟩
  | bk => cases e; exact k
  | ct => cases e; exact k
  | rt r => cases e; exact k
theorem ds_cons {st : Stmt} {rest : List Stmt} {f g : FS} (h1 : PS X st (tS c P f)) (h2 : PSs X rest (tS c P g)) : PSs X (st :: rest) (tS c P (sSeq f g)) := pssmono (pss_cons h1 h2) fun _ _ _ h => seq_read h
theorem ds_one {st : Stmt} {f : FS} (h1 : PS X st (tS c P f)) : PSs X [st] (tS c P f) := pss_one h1
theorem ds_ret {e : Expr} {f : FE} (h : PE X e (tE c f)) : PS X (.Return (some e) pos) (tS c P (sRet f)) := psmono (ps_ret h) fun D σ H h => by
  obtain ⟨G, S, R, ok, fl, S', e, k⟩ := h
  obtain ⟨⟨r, S1⟩, e1, e⟩ := bind_ok e
  cases e
  exact ⟨G, S, R, ok, r, _, e1, fun G' v H' s ok' => k G' v σ H' s (Prot.refl σ) ok'⟩
theorem ds_retN : PS X (.Return none pos) (tS c P sRetN) := psmono ps_retN fun D σ H h => by
  obtain ⟨G, S, R, ok, fl, S', e, k⟩ := h
  cases e
  exact k G .non σ H (Sub.refl G) (Prot.refl σ) ⟨ok.cov, ok.rel.put_sh .non⟩
theorem ds_break : PS X (.Break pos) (tS c P sBk) := psmono ps_break fun D σ H h => by
  obtain ⟨G, S, R, ok, fl, S', e, k⟩ := h
  cases e
  exact k G σ H (Sub.refl G) (Prot.refl σ) ok
theorem ds_continue : PS X (.Continue pos) (tS c P sCt) := psmono ps_continue fun D σ H h => by
  obtain ⟨G, S, R, ok, fl, S', e, k⟩ := h
  cases e
  exact k G σ H (Sub.refl G) (Prot.refl σ) ok
theorem ds_pass : PS X (.Pass pos) (tS c P sNil) := psmono ps_pass fun D σ H h => by
  obtain ⟨G, S, R, ok, fl, S', e, k⟩ := h
  cases e
  exact k G σ H (Sub.refl G) (Prot.refl σ) ok
theorem ds_expr {e : Expr} {f : FE} (h : PE X e (tE c f)) (hs : swapsWith e none pos.line X.env = pure false := by rfl) : PS X (.Expr e pos) (tS c P (sDrop f)) := psmono (ps_expr h hs) fun D σ H h => by
  obtain ⟨G, S, R, ok, fl, S', e, k⟩ := h
  obtain ⟨⟨r, S1⟩, e1, e⟩ := bind_ok e
  cases e
  exact ⟨G, S, R, ok, r, _, e1, fun G' v H' s ok' => k G' σ H' s (Prot.refl σ) ⟨ok'.cov, ok'.rel.drop⟩⟩
theorem ds_if {t : Expr} {a b : List Stmt} {ft : FT} {f g : FS} (ht : PT X t (tT c ft)) (ha : PSs X a (tS c P f)) (hb : PSs X b (tS c P g)) : PS X (.If t a b pos) (tS c P (sIf ft f g)) := psmono (ps_if ht ha hb) fun D σ H h => by
  obtain ⟨G, S, R, ok, fl, S', e, k⟩ := h
  obtain ⟨⟨b1, S1⟩, e1, e⟩ := bind_ok e
  refine ⟨G, S, R, ok, b1, S1, e1, fun G' H' s ok' => ?_⟩
  cases b1 with
  | true => exact ⟨G', S1, R, ok', fl, S', e, k.mono s (Prot.refl σ)⟩
  | false => exact ⟨G', S1, R, ok', fl, S', e, k.mono s (Prot.refl σ)⟩

/-! ### targets -/
abbrev FG := MV → SS → M SS
abbrev FGs := List D → SS → M SS
def tGd (c : Gh) (P : List Nat) (f : FG) : TG := fun v σ H Q => ∃ G S R r, SOk c G H σ S ((r.1, v, r.2) :: R) ∧ ∃ S', f r S = .ok S' ∧ ∀ G' σ' H', Sub G G' → Prot P σ σ' → SOk c G' H' σ' S' R → Q σ' H'
def tGsd (c : Gh) (P : List Nat) (f : FGs) : TGs := fun vs σ H Q => ∃ G S R ds, SOk c G H σ S R ∧ DqAll c.K G vs ds ∧ ∃ S', f ds S = .ok S' ∧ ∀ G' σ' H', Sub G G' → Prot P σ σ' → SOk c G' H' σ' S' R → Q σ' H'
def gNm (i : Nat) : FG := fun r S => .ok (S.set i (some r))
def gsNil : FGs := fun ds S => match ds with
  | [] => .ok S
  | _ => stk
def gsCons (g : FG) (gs : FGs) : FGs := fun ds S => match ds with
  | d :: ds => do
    let S1 ← g (.sh, d) S
    gs ds S1
  | _ => stk
def gTp (n : Nat) (gs : FGs) : FG := fun r S => match r with
  | (.sh, .tuple ds) => if ds.length = n then gs ds S else stk
  | _ => stk
theorem pgmono {e : Expr} {t t' : TG} (h : PG X e t) (k : ∀ v σ H Q, t' v σ H Q → t v σ H Q) : PG X e t' := ⟨fun pins s σ H v u Q I r q => h.run pins s σ H v u Q I r (k v σ H Q q)⟩
theorem pgsmono {e : List Expr} {t t' : TGs} (h : PGs X e t) (k : ∀ v σ H Q, t' v σ H Q → t v σ H Q) : PGs X e t' := ⟨fun pins s σ H v u Q I r q => h.run pins s σ H v u Q I r (k v σ H Q q)⟩
theorem SOk.clear {G H : Hp} {σ : L2.St} {S : SS} {R : List T3} (h : SOk c G H σ S R) (i : Nat) : SOk c G H σ (S.set i none) R := by
  refine ⟨h.cov.none i, ?_⟩
  by_cases q : ∃ r, S[i]? = some (some r)
  · obtain ⟨⟨m, d⟩, e⟩ := q
    obtain ⟨v, _, rl⟩ := h.slot e
    exact rl.drop
  · have e : S.set i none = S := by
      cases z : S[i]? with
      | none =>
        have : S.length ≤ i := List.getElem?_eq_none_iff.mp z
        exact List.set_eq_of_length_le this
      | some x =>
        cases x with
        | none => exact set_self z
        | some r => exact absurd ⟨r, z⟩ q
    rw [e]
    exact h.rel
theorem SOk.store {G H : Hp} {σ : L2.St} {S : SS} {R : List T3} {r : MV} {v : V} (h : SOk c G H σ S ((r.1, v, r.2) :: R)) (i : Nat) : SOk c G H (σ.set i (some v)) (S.set i (some r)) R := by
  have hc := h.clear i
  have hlen : (S.set i (some r)).length = (σ.set i (some v)).length := by rw [List.length_set, List.length_set]; exact h.cov.len
  have hat : ∀ (j : Nat) (x : Md × D), (S.set i (some r))[j]? = some (some x) → ∃ w : V, (σ.set i (some v))[j]? = some (some w) := fun j x e => by
    by_cases q : i = j
    · subst q
      have hi : i < S.length := by have := lt_of_get e; rwa [List.length_set] at this
      exact ⟨v, by rw [List.getElem?_set_self (by rw [← h.cov.len]; exact hi)]⟩
    · rw [List.getElem?_set_ne q] at e ⊢
      exact h.cov.at_ j x e
  refine ⟨⟨hlen, hat⟩, ?_⟩
  by_cases hi : i < S.length
  · have p := prs_put (σ := σ) (S := S) (i := i) (v := v) (m := r.1) (d := r.2) (by rw [← h.cov.len]; exact hi) hi
    exact hc.rel.perm ((List.perm_middle.symm).trans (p.symm.append_left R))
  · have e1 : S.set i (some r) = S := List.set_eq_of_length_le (by omega)
    have e2 : σ.set i (some v) = σ := List.set_eq_of_length_le (by have := h.cov.len; omega)
    rw [e1, e2]
    exact h.rel.drop
theorem Prot.set {σ : L2.St} {i : Nat} {x : Option V} (h : P.all (fun j => j != i) = true) : Prot P σ (σ.set i x) := ⟨List.length_set, fun j hj => by
  have := List.all_eq_true.mp h j hj
  rw [List.getElem?_set_ne (by simpa using (fun e : i = j => by simp [e] at this))]⟩
theorem dg_name {i : Nat} {x : Str} (hN : X.N.Nodup) (hi : X.N[i]? = some x := by rfl) (hx : Loc X.env.scope x := by first | exact Or.inl rfl | exact Or.inr rfl) (hP : P.all (fun j => j != i) = true := by rfl)
    (hf : X.fn x = true ∨ X.env.scope.names.lookup x = some .local := by first | exact .inl rfl | exact .inr rfl | assumption) : PG X (.Name x pos) (tGd c P (gNm i)) := pgmono (pg_name hN hi hx hf) fun v σ H Q h => by
  obtain ⟨G, S, R, r, ok, S', e, k⟩ := h
  cases e
  exact k G _ H (Sub.refl G) (Prot.set hP) (ok.store i)
theorem dgs_nil : PGs X [] (tGsd c P gsNil) := pgsmono pgs_nil fun vs σ H Q h => by
  obtain ⟨G, S, R, ds, ok, hd, S', e, k⟩ := h
  cases ds with
  | nil => cases e; cases hd; exact ⟨rfl, k G σ H (Sub.refl G) (Prot.refl σ) ok⟩
  | cons d ds => cases e
theorem dgs_cons {e : Expr} {es : List Expr} {g : FG} {gs : FGs} (h1 : PG X e (tGd c P g)) (h2 : PGs X es (tGsd c P gs)) (hs : (assignEach (e :: es) X.env).map (·.2) = assign e X.env :: (assignEach es X.env).map (·.2) := by rfl) : PGs X (e :: es) (tGsd c P (gsCons g gs)) := pgsmono (pgs_cons h1 h2 hs) fun vs σ H Q h => by
  obtain ⟨G, S, R, ds, ok, hd, S', e, k⟩ := h
  cases ds with
  | nil => cases e
  | cons d ds =>
    obtain ⟨S1, e1, e⟩ := bind_ok e
    cases hd with
    | cons a b =>
      refine ⟨_, _, rfl, G, S, R, (.sh, d), ⟨ok.cov, ok.rel.put_sh a⟩, S1, e1, fun G1 σ1 H1 s1 p1 ok1 => ?_⟩
      exact ⟨G1, S1, R, ds, ok1, Dq.subAll s1 _ _ b, S', e, fun G' σ' H' s p ok' => k G' σ' H' (s1.trans s) (p1.trans p) ok'⟩
theorem dg_tup {es : List Expr} {k : Nat} {gs : FGs} {n : Nat} (hK : c.K = X.K) (hc : X.calm = true) (h : PGs X es (tGsd c P gs)) (hn : (assignEach es X.env).length = n := by rfl) (hst : (assignEach es X.env).findIdx? (·.1) = none := by rfl) : PG X (.Tuple es k pos) (tGd c P (gTp n gs)) := pgmono (pg_tup hc h hn hst) fun v σ H Q h => by
  obtain ⟨G, S, R, r, ok, S', e, k⟩ := h
  unfold gTp at e
  split at e
  · split at e
    · rename_i hl
      have hd := ok.rel.sh_of
      cases hd with
      | tup a b =>
        refine ⟨_, _, rfl, by rw [← hK]; exact SqT.sub ok.sub a, by rw [b.length]; exact hl, G, S, R, _, ⟨ok.cov, ok.rel.drop⟩, b, S', e, k⟩
    · cases e
  · cases e
/-! ### assignments -/
def sAsg (g : FG) (f : FE) : FS := fun S => do
  let (r, S1) ← f S
  let S2 ← g r S1
  pure (.nx, S2)
theorem asg_read {f : FE} {g : FG} {Dn : Ends} {σ : L2.St} {H : Hp} (h : tS c P (sAsg g f) Dn σ H) : tAsg (tE c f) (tGd c P g) Dn σ H := by
  obtain ⟨G, S, R, ok, fl, S', e, k⟩ := h
  obtain ⟨⟨r, S1⟩, e1, e⟩ := bind_ok e
  obtain ⟨S2, e2, e⟩ := bind_ok e
  cases e
  exact ⟨G, S, R, ok, r, S1, e1, fun G' v H' s ok' => ⟨G', S1, R, r, ok', _, e2, fun G2 σ2 H2 s2 p2 ok2 => k G2 σ2 H2 (s.trans s2) p2 ok2⟩⟩
theorem ds_asg {tg e : Expr} {f : FE} {g : FG} (he : PE X e (tE c f)) (hg : PG X tg (tGd c P g)) (hs : swapsWithSole [tg] e pos.line X.env = pure false := by rfl) (hw : swappedStores [tg] e X.env = pure none := by rfl)
    (h1 : (assignEach [tg] X.env).map (·.2) = [assign tg X.env] := by rfl) : PS X (.Assign [tg] e pos) (tS c P (sAsg g f)) := psmono (ps_asg he hg hs hw h1) fun _ _ _ h => asg_read h
theorem ds_set {i : Nat} {x : Str} {e : Expr} {f : FE} {pos' : Pos} (hN : X.N.Nodup) (he : PE X e (tE c f)) (hi : X.N[i]? = some x := by rfl) (hx : Loc X.env.scope x := by first | exact Or.inl rfl | exact Or.inr rfl) (hP : P.all (fun j => j != i) = true := by rfl) (hs : swapsWith e (some (.Name x pos')) pos.line X.env = pure false := by rfl)
    (hf : X.fn x = true ∨ X.env.scope.names.lookup x = some .local := by first | exact .inl rfl | exact .inr rfl | assumption) : PS X (.Assign [.Name x pos'] e pos) (tS c P (sAsg (gNm i) f)) := psmono (ps_set hN hi hx he hs hf) fun D σ H h => by
  obtain ⟨G, S, R, ok, fl, S', e, k⟩ := h
  obtain ⟨⟨r, S1⟩, e1, e⟩ := bind_ok e
  obtain ⟨S2, e2, e⟩ := bind_ok e
  cases e2
  cases e
  exact ⟨G, S, R, ok, r, S1, e1, fun G' v H' s ok' => k G' _ H' s (Prot.set hP) (ok'.store i)⟩
/-- x op= e -/
def sAug (i : Nat) (sem : Sem2) (o : FO) : FS := fun S => do
  let (r, S1) ← fOp2 sem (oP i) o S
  pure (.nx, S1.set i (some r))
theorem ds_aug {i : Nat} {x : Str} {e : Expr} {op : Operator} {o : FO} {sem : Sem2} {pos' : Pos} (hN : X.N.Nodup) (he : PE X e (tO c o)) (ho : OpR X (inplaceOp op) (r2D c sem)) (hi : X.N[i]? = some x := by rfl) (hx : Loc X.env.scope x := by first | exact Or.inl rfl | exact Or.inr rfl) (hP : P.all (fun j => j != i) = true := by rfl)
    (hf : X.fn x = true ∨ X.env.scope.names.lookup x = some .local := by first | exact .inl rfl | exact .inr rfl | assumption) : PS X (.AugAssign (.Name x pos') op e pos) (tS c P (sAug i sem o)) := psmono (ps_aug hN hi hx he (ti := fun x y H Q => r2D c sem x y H Q) (fun pins s σ H x y v u Q I rx ry h => ho pins s σ H x y v u Q I rx ry h) hf) fun D σ H h => by
  obtain ⟨G, S, R, ok, fl, S', e, k⟩ := h
  obtain ⟨⟨r, S1⟩, e1, e⟩ := bind_ok e
  cases e
  have q := op2_read (c := c) (sem := sem) (oa := oP i) (ob := o) (σ := σ) (H := H) (Q := fun v H' => D.nx (σ.set i (some v)) H') ⟨G, S, R, ok, r, S1, e1, fun G' v H' s ok' => k G' _ H' s (Prot.set hP) (ok'.store i)⟩
  obtain ⟨G0, S0, R0, ok0, t, S0', e0, k0⟩ := q
  unfold oP at e0
  split at e0
  · rename_i r0 hS
    cases e0
    obtain ⟨v, hv⟩ := ok0.cov.at_ i r0 hS
    exact ⟨v, hv, k0 G0 v H (Sub.refl G0) hv ok0⟩
  · cases e0

/-! ### what a for walks -/
abbrev FI := SS → M (List D × SS)
structure WalkD (c : Gh) (J : It) (G : Hp) (ds : List D) : Prop where
  go : ∀ G' H i, Sub G G' → Sub G' H → i < ds.length → J.go i H
  stop : ∀ G' H, Sub G G' → Sub G' H → J.stop ds.length H
  yld : ∀ G' H i x H' d, Sub G G' → Sub G' H → ds[i]? = some d → J.yld i H x H' → (H' = H ∧ Dq c.K G' x d) ∨ ∃ T vs es, x = .ref T ∧ H T = none ∧ H' = upd H T (.tup vs) ∧ d = .tuple es ∧ DqAll c.K G' vs es
def tId (c : Gh) (f : FI) : TI := fun σ H R' => ∃ G S R, SOk c G H σ S R ∧ ∃ ds S', f S = .ok (ds, S') ∧ ∀ J G' H', Sub G G' → SOk c G' H' σ S' R → WalkD c J G' ds → R' J H'
theorem pimono {tg e : Expr} {t t' : TI} (h : PI X tg e t) (k : ∀ σ H Q, t' σ H Q → t σ H Q) : PI X tg e t' := ⟨fun pins s σ H Q I q => h.run pins s σ H Q I (k σ H Q q)⟩
def forD (g : FG) (body : FS) : List D → FS
  | [], S => .ok (.nx, S)
  | d :: ds, S => do
    let S1 ← g (.sh, d) S
    let (fl, S2) ← body S1
    match fl with
    | .nx => forD g body ds S2
    | .ct => forD g body ds S2
    | .bk => .ok (.nx, S2)
    | .rt r => .ok (.rt r, S2)
def sFor (fi : FI) (g : FG) (body : FS) : FS := fun S => do
  let (ds, S1) ← fi S
  forD g body ds S1
/-- what a turn yields is there for all -/
theorem yld_sh {J : It} {G G' H : Hp} {ds : List D} {i : Nat} {x : V} {H' : Hp} {d : D} {σ : L2.St} {S : SS} {R : List T3} (w : WalkD c J G ds) (s : Sub G G') (ok : SOk c G' H σ S R) (hd : ds[i]? = some d) (y : J.yld i H x H') : ∃ G2, Sub G' G2 ∧ SOk c G2 H' σ S ((.sh, x, d) :: R) := by
  rcases w.yld G' H i x H' d s ok.sub hd y with ⟨rfl, h⟩ | ⟨T, vs, es, rfl, hT, rfl, rfl, h⟩
  · exact ⟨G', Sub.refl _, ok.cov, ok.rel.put_sh h⟩
  · obtain ⟨s2, r2⟩ := ok.rel.new_tup hT h
    exact ⟨_, s2, ok.cov, r2⟩
theorem ds_for {iter tg : Expr} {body : List Stmt} {fi : FI} {g : FG} {fb : FS} (hp : PassesOwn (model X.prog X.w) X.A X.env X.xe) (hc : X.calm = true) (hi : PI X tg iter (tId c fi)) (hg : PG X tg (tGd c P g)) (hb : PSs X body (tS c P fb))
    (hs : ∀ x, foldedSetIterable iter X.env x = pure x := by intro _; rfl) : PS X (.For tg iter body [] pos) (tS c P (sFor fi g fb)) := psmono (ps_for hp hc hi hg hb hs) fun Dn σ H h => by
  obtain ⟨G, S, R, ok, fl, S', e, k⟩ := h
  obtain ⟨⟨ds, S1⟩, e1, e⟩ := bind_ok e
  refine ⟨G, S, R, ok, ds, S1, e1, fun J G1 H1 s1 ok1 w => ?_⟩
  refine ⟨fun i m σ' H' => m = ds.length - i ∧ i ≤ ds.length ∧ ∃ G' S2, Sub G1 G' ∧ Prot P σ σ' ∧ SOk c G' H' σ' S2 R ∧ forD g fb (ds.drop i) S2 = .ok (fl, S'), ⟨_, rfl, Nat.zero_le _, G1, S1, Sub.refl _, Prot.refl _, ok1, e⟩, ?_⟩
  rintro i m σ' H' ⟨rfl, hle, G', S2, s2, p2, ok2, e2⟩
  by_cases hlt : i < ds.length
  · refine .inr ⟨w.go G' H' i s2 ok2.sub hlt, fun σ3 H3 => ∃ G3 S3, Sub G1 G3 ∧ Prot P σ σ3 ∧ SOk c G3 H3 σ3 S3 R ∧ forD g fb (ds.drop (i + 1)) S3 = .ok (fl, S'), fun σ3 H3 ⟨G3, S3, a1, a2, a3, a4⟩ => ⟨ds.length - (i + 1), by omega, rfl, hlt, G3, S3, a1, a2, a3, a4⟩, fun x H3 y => ?_⟩
    rw [List.drop_eq_getElem_cons hlt] at e2
    obtain ⟨S3, e3, e2⟩ := bind_ok e2
    obtain ⟨⟨fl4, S4⟩, e4, e2⟩ := bind_ok e2
    obtain ⟨G3, s3, ok3⟩ := yld_sh w s2 ok2 (List.getElem?_eq_getElem hlt) y
    refine ⟨G3, S2, R, _, ok3, S3, e3, fun G5 σ5 H5 s5 p5 ok5 => ?_⟩
    have sAll := (s2.trans s3).trans s5
    have pAll := p2.trans p5
    refine ⟨G5, S3, R, ok5, fl4, S4, e4, ?_⟩
    cases fl4 with
    | nx => exact fun G6 σ6 H6 s6 p6 ok6 => ⟨G6, S4, sAll.trans s6, pAll.trans p6, ok6, e2⟩
    | ct => exact fun G6 σ6 H6 s6 p6 ok6 => ⟨G6, S4, sAll.trans s6, pAll.trans p6, ok6, e2⟩
    | bk =>
      cases e2
      exact fun G6 σ6 H6 s6 p6 ok6 => k G6 σ6 H6 ((s1.trans sAll).trans s6) (pAll.trans p6) ok6
    | rt r =>
      cases e2
      exact fun G6 v σ6 H6 s6 p6 ok6 => k G6 v σ6 H6 ((s1.trans sAll).trans s6) (pAll.trans p6) ok6
  · have ei : i = ds.length := by omega
    subst ei
    rw [List.drop_length] at e2
    cases e2
    exact .inl ⟨w.stop G' H' s2 ok2.sub, k G' σ' H' (s1.trans s2) p2 ok2⟩
/-! while: the first number is how many turns there may be -/
def whileD (t : FT) (body : FS) : Nat → FS
  | 0, _ => stk
  | n + 1, S => do
    let (b, S1) ← t S
    if b then do
      let (fl, S2) ← body S1
      match fl with
      | .nx => whileD t body n S2
      | .ct => whileD t body n S2
      | .bk => .ok (.nx, S2)
      | .rt r => .ok (.rt r, S2)
    else .ok (.nx, S1)
theorem ds_while (n : Nat) {t : Expr} {body : List Stmt} {ft : FT} {fb : FS} (hp : PassesOwn (model X.prog X.w) X.A X.env X.xe) (ht : PT X t (tT c ft)) (hb : PSs X body (tS c P fb)) : PS X (.While t body [] pos) (tS c P (whileD ft fb n)) := psmono (ps_while hp ht hb) fun Dn σ H h => by
  obtain ⟨G, S, R, ok, fl, S', e, k⟩ := h
  refine ⟨fun m σ' H' => ∃ G' S2, Sub G G' ∧ Prot P σ σ' ∧ SOk c G' H' σ' S2 R ∧ whileD ft fb m S2 = .ok (fl, S'), ⟨n, G, S, Sub.refl _, Prot.refl _, ok, e⟩, ?_⟩
  rintro m σ' H' ⟨G', S2, s2, p2, ok2, e2⟩
  cases m with
  | zero => cases e2
  | succ m =>
    obtain ⟨⟨b, S3⟩, e3, e2⟩ := bind_ok e2
    refine ⟨G', S2, R, ok2, b, S3, e3, fun G3 H3 s3 ok3 => ?_⟩
    cases b with
    | false =>
      cases e2
      exact k G3 σ' H3 (s2.trans s3) p2 ok3
    | true =>
      obtain ⟨⟨fl4, S4⟩, e4, e2⟩ := bind_ok e2
      refine ⟨fun σ5 H5 => ∃ G5 S5, Sub G G5 ∧ Prot P σ σ5 ∧ SOk c G5 H5 σ5 S5 R ∧ whileD ft fb m S5 = .ok (fl, S'), fun σ5 H5 h5 => ⟨m, Nat.lt_succ_self m, h5⟩, ?_⟩
      refine ⟨G3, S3, R, ok3, fl4, S4, e4, ?_⟩
      cases fl4 with
      | nx => exact fun G6 σ6 H6 s6 p6 ok6 => ⟨G6, S4, (s2.trans s3).trans s6, p2.trans p6, ok6, e2⟩
      | ct => exact fun G6 σ6 H6 s6 p6 ok6 => ⟨G6, S4, (s2.trans s3).trans s6, p2.trans p6, ok6, e2⟩
      | bk =>
        cases e2
        exact fun G6 σ6 H6 s6 p6 ok6 => k G6 σ6 H6 ((s2.trans s3).trans s6) (p2.trans p6) ok6
      | rt r =>
        cases e2
        exact fun G6 v σ6 H6 s6 p6 ok6 => k G6 v σ6 H6 ((s2.trans s3).trans s6) (p2.trans p6) ok6
end
end O
set_option maxRecDepth 100000
set_option maxHeartbeats 1000000
namespace O
open PySem PySem.Spec PyProof.Rows L2
open AutoSeq1 (wpAny_loadPart')

/-! ### enumerate(tuple) -/
theorem meets_enumerate_newT (l : Addr) (items : Array Value) (dct : Option Addr) (sl : Array (Option Value)) (n : Nat) :
    Meets (Builtin.«enumerate.__new__» ⟨[.type "enumerate", .ref l], []⟩) (fun _ R s => s.heap.get? l = some { cls := .type "tuple", dict := dct, data := .seq items n, slots := sl } ∧
      R (.ok (.ret (.ref (s.heap.push { cls := .type "tuple_iterator", data := .fields #[.ref l, .int 0 0] }).objs.size)))
        { s with heap := (s.heap.push { cls := .type "tuple_iterator", data := .fields #[.ref l, .int 0 0] }).push { cls := .type "enumerate", data := .fields #[.none, .bool false, .ref s.heap.objs.size, rawInt 0, .none, .none] } }) :=
  .of_wp fun prog w A R s h => by
    obtain ⟨hp, g, d, tk, os⟩ := s; obtain ⟨hl, h⟩ := h
    have hsub := sub_enumerate
    have hL : Heap.IsTuple (Shared.heap ⟨hp, g, d, tk, os⟩) l items := ⟨_, hl, rfl, n, rfl⟩
    wp_walk using wpAny_loadPart' hl
    refine wpAny_stack_any fun st => wpAny_pure ?_
    split
    · rename_i c _ _ _ _ _
      cases (c == Value.type "enumerate")
      · wp_walk using wpAny_loadPart' hl, wpAny_pyIter_tuple hL
        exact ⟨_, rfl, h⟩
      · wp_walk using wpAny_loadPart' hl, wpAny_pyIter_tuple hL
        exact ⟨_, rfl, h⟩
    · wp_walk using wpAny_loadPart' hl, wpAny_pyIter_tuple hL
      exact ⟨_, rfl, h⟩
theorem call_enumerate_tup {prog : Program} {w : World} {A : Around} {E : Value → Shared → Prop} {s : Shared} {l : Addr} {items : Array Value} {Q : Value → Shared → Prop} (hL : s.heap.IsTuple l items)
    (h : ∀ h', IsEnum h' (s.heap.objs.size + 1) s.heap.objs.size 0 .none → h'.IsTupleIter s.heap.objs.size l 0 → h'.objs.size = s.heap.objs.size + 2 →
      (∀ b o, s.heap.get? b = some o → h'.get? b = some o) → Q (.ref (s.heap.objs.size + 1)) { s with heap := h' }) :
    wpAny (model prog w) A (call (.type "enumerate") [.ref l]) Q E s := by
  obtain ⟨⟨c, dct, dt, sl⟩, hl, hc, n, hd⟩ := hL
  replace hc : c = .type "tuple" := hc
  replace hd : dt = .seq items n := hd
  subst hc hd
  refine callType_new F.called_enumerate (by decide) (F.typeCall_enumerate_1 _) (F.newCall_enumerate_1 _) (fun obj => F.args_object_init_2 obj _) F.entry_enumerate_new
    (meets_enumerate_newT l items dct sl n) ⟨hl, ?_⟩
  have hz : (s.heap.push { cls := .type "tuple_iterator", data := .fields #[.ref l, .int 0 0] }).objs.size = s.heap.objs.size + 1 := Heap.size_push ..
  show _ ∧ _
  rw [hz]
  have he : IsEnum ((s.heap.push { cls := .type "tuple_iterator", data := .fields #[.ref l, .int 0 0] }).push
      { cls := .type "enumerate", data := .fields #[.none, .bool false, .ref s.heap.objs.size, rawInt 0, .none, .none] }) (s.heap.objs.size + 1) s.heap.objs.size 0 .none := by
    have := Heap.get?_push_size (s.heap.push { cls := .type "tuple_iterator", data := .fields #[.ref l, .int 0 0] })
      (o := { cls := .type "enumerate", data := .fields #[.none, .bool false, .ref s.heap.objs.size, rawInt 0, .none, .none] }) rfl
    rw [hz] at this; exact this
  refine ⟨⟨_, he, rfl⟩, h _ he ⟨_, Heap.get?_push_of_some _ (Heap.get?_push_size _ rfl), rfl, rfl⟩ (by rw [Heap.size_push, hz]) fun b o x => Heap.get?_push_of_some _ (Heap.get?_push_of_some _ x)⟩
def IteT (K : PySem.W.Frag) (a : Addr) : It :=
  ⟨fun i H => ∃ (xs : List V) (x : V), SqT K H a xs ∧ xs[i]? = some x, fun i H v H' => ∃ T x, v = .ref T ∧ H T = none ∧ H' = upd H T (.tup [.int (i : Nat), x]) ∧ ∀ xs, SqT K H a xs → xs[i]? = some x, fun i H => ∃ xs : List V, SqT K H a xs ∧ xs.length ≤ i⟩
theorem turn_enumT {P : Program} {w : World} {K : PySem.W.Frag} {elts : List Expr} {kk : Nat} {tpos : Pos} (a e it : Addr) :
    Turn P w K (.Tuple elts kk tpos) (IteT K a) [e, it] e (fun i h => (∃ old, IsEnum h e it ((i : Nat) : Int) old) ∧ h.IsTupleIter it a i ∧ e ≠ it ∧ a ≠ e ∧ a ≠ it) where
  mem := by simp
  obj := fun i h st b hb => by
    obtain ⟨⟨old, he⟩, ⟨o, ho, hc, hd⟩, _⟩ := st
    have e' : b = e ∨ b = it := by simpa using hb
    rcases e' with z | z
    · rw [z]; exact ⟨_, he, fun v q => nomatch q⟩
    · rw [z]; exact ⟨o, ho, fun v q => by rw [hd] at q; cases q⟩
  keep := fun i h h' st k => let ⟨⟨old, he⟩, hi, hne⟩ := st; ⟨⟨old, k e (by simp) _ he⟩, hi.at fun o q => k it (by simp) o q, hne⟩
  item := by
    intro X hP hw hK hc i pins s σ H E I hf st hg
    subst hP hw hK
    obtain ⟨⟨old, he⟩, hit, hne, hae, hai⟩ := st
    obtain ⟨xs, x, hq, hx⟩ := hg
    obtain ⟨its, rv, p, hz⟩ := I.tuple hq
    obtain ⟨u, hu, ru⟩ := rv.get hx
    have hel : e < s.heap.objs.size := Heap.lt_size he
    have hil : it < s.heap.objs.size := by obtain ⟨_, q, _⟩ := hit; exact Heap.lt_size q
    have ht : s.heap.IsTuple a its.toArray := p
    have hlt : i < its.toArray.size := by
      have := List.getElem?_eq_some_iff.mp hu
      obtain ⟨w, _⟩ := this
      simpa using w
    refine wpAny_pyNext_enum_itemD (Draws.tuple (show X.A.in1.handled = none from I.ok.hd hc) it a hai its.toArray) he ⟨hit, ht⟩ hlt hne (by simp [hne, Ne.symm hae]) fun x' h' tk hx' ho st' hT hsz hk => ?_
    have ex : x' = u := by
      have h1 : its.toArray[i]? = some u := by simpa using hu
      have h2 : its.toArray[i]? = some x' := hx'
      rw [h1] at h2; exact (Option.some.inj h2).symm
    subst ex
    refine ⟨_, rfl, wpAny_letOwnedTupleGo_enum (s := { s with heap := h', toks := tk + 1 }) ho fun h'' he' sb => ?_⟩
    have hT2 : h''.get? s.heap.objs.size = some { cls := .type "tuple", data := .seq #[.int i tk, x'] } := (sb.2 _ (Nat.ne_of_gt hel)).trans hT
    have new : ObjOk X.prog X.w (upd H s.heap.objs.size (.tup [.int (i : Nat), x])) h'' s.heap.objs.size (.tup [.int (i : Nat), x]) :=
      ⟨by show 2 ≤ sizeLine; decide, [.int i tk, x'], .cons ⟨_, rfl⟩ (.cons ru .nil), ⟨_, hT2, rfl, _, rfl⟩⟩
    have I1 : Inv X pins σ (upd H s.heap.objs.size (.tup [.int (i : Nat), x])) { s with heap := h'', toks := tk + 1 } :=
      I.turnedNew (ch := [e, it]) (fun b ob hb q => (sb.2 b (fun z => hb (by simp [z]))).trans (hk b ob (fun z => hb (by simp [z])) (fun z => hb (by simp [z])) q)) hf (Nat.le_refl _) new
    refine ⟨.ref s.heap.objs.size, _, I1, rfl, ⟨_, x, rfl, I.hok.fresh (Nat.le_refl _), rfl, fun ys hy => by rw [I.tuple_inj hy hq]; exact hx⟩, ⟨⟨x', ?_⟩, st'.1.at fun o q => (sb.2 it (Ne.symm hne)).trans q, hne, hae, hai⟩, fun b hb => ?_⟩
    · have e1 : ((i + 1 : Nat) : Int) = (i : Int) + 1 := by omega
      rw [e1]; exact he'
    · have hb' : b < s.heap.objs.size := by
        have e' : b = e ∨ b = it := by simpa using hb
        rcases e' with z | z
        · rw [z]; exact hel
        · rw [z]; exact hil
      rw [upd_ne (Nat.ne_of_lt hb')]
      exact (hf b hb).1
  done := by
    intro X hP hw hK hc i pins s σ H E I hf st hg
    subst hP hw hK
    obtain ⟨⟨old, he⟩, hit, hne, hae, hai⟩ := st
    obtain ⟨xs, hq, hx⟩ := hg
    obtain ⟨its, rv, p, hz⟩ := I.tuple hq
    obtain ⟨f0, f1, f2, f3, f4, f5⟩ := hf it (by simp)
    have hl := rv.length
    have ht : s.heap.IsTuple a its.toArray := p
    have hT : s.TypeIs (.ref e) "enumerate" := ⟨_, he, rfl⟩
    have hn : its.toArray[i]? = none := by simp; omega
    unfold pyNext
    refine wpAny_bind (wpAny_attempt (wpAny_callSpecial?_slot (name := Str.ofString "__next__") hT F.slot_enumerate_next
      (wpAny_call_entry F.slot_enumerate_next hT F.entry_enumerate_next ?_ (F.args_enumerate_next_1 _))))
    show wpAny _ _ (field (.ref e) 2 >>= _) _ _ _
    refine wpAny_bind (wpAny_field he rfl (x := .ref it) rfl ?_)
    refine wpAny_bind (wpAny_nextOf_tuple_end (A := X.A.in1) (show X.A.in1.handled = none from I.ok.hd hc) hit ht hn fun h' x he' hx' => ?_)
    obtain ⟨o, ho, hc'⟩ := hx'
    refine wpAny_bind (wpAny_isInstance (T := "StopIteration") (b := true) ⟨o, ho, hc'⟩ isSubtype_stop ?_)
    exact wpAny_pure ⟨rfl, I.turned (t' := s.toks) (fun b o hb q => he' b o hb q) f0 f1 f3 f4 f5⟩
  self := fun A i s Q E st h => let ⟨⟨_, he⟩, _⟩ := st; wpAny_pyIter_enum he h
def iEnumA (K : PySem.W.Frag) (ta : TA) : TI := fun σ H R => ta σ H fun vs H1 => ∃ a xs, vs = [.ref a] ∧ ((SqL K H1 a xs ∧ R (Ite K a) H1) ∨ (SqT K H1 a xs ∧ R (IteT K a) H1))
theorem pi_enumA {X : Cx} {e : Expr} {ta : TA} {p pos tpos : Pos} {elts : List Expr} {kk : Nat} (hg : Gl X "enumerate") (hm : X.mg "enumerate" = none) (ha : PA X [e] ta) (hs : starEach [e] X.env = [(false, eval e X.env)] := by rfl) :
    PI X (.Tuple elts kk tpos) (.Call (.Name "enumerate" p) [e] [] pos) (iEnumA X.K ta) := by
  refine ⟨fun pins s σ H R I h => ?_⟩
  refine Call_ (ld_blt I hg hm boot_enumerate (PyProof.Rows.callWith_type1 (thn (ha.run pos pins s σ H _ I h) fun us s1 ⟨vs, H1, I1, r1, q1⟩ => ?_) hs rfl))
  obtain ⟨a, xs, ex, q1⟩ := q1
  subst ex
  cases r1 with
  | cons r rr =>
    cases rr
    cases r
    have fr : ∀ b ∈ [s1.heap.objs.size + 1, s1.heap.objs.size], FpOk X pins H1 b := fun b hb => by
      have e' : b = s1.heap.objs.size + 1 ∨ b = s1.heap.objs.size := by simpa using hb
      have hle : s1.heap.objs.size ≤ b := by
        rcases e' with z | z
        · rw [z]; exact Nat.le_add_right _ _
        · rw [z]; exact Nat.le_refl _
      exact I1.fpOk hle (I1.hok.fresh hle)
    rcases q1 with ⟨hq, q⟩ | ⟨hq, q⟩
    · obtain ⟨its, rv, p', hz⟩ := I1.list hq
      refine call_enumerate_list p'.isList fun h' he hit hsz hk => wpAny_pyIter_enum he ?_
      have I2 : Inv X pins σ H1 { s1 with heap := h' } := I1.kept (t' := s1.toks) hk
      exact ⟨s1.heap.objs.size + 1, [s1.heap.objs.size + 1, s1.heap.objs.size], _, _, H1, rfl, I2, turn_enum a (s1.heap.objs.size + 1) s1.heap.objs.size, ⟨⟨.none, he⟩, hit, Nat.succ_ne_self _⟩, fr, q⟩
    · obtain ⟨its, rv, p', hz⟩ := I1.tuple hq
      have ht : s1.heap.IsTuple a its.toArray := p'
      have hlt : a < s1.heap.objs.size := by obtain ⟨o, ho, _⟩ := id ht; exact Heap.lt_size ho
      refine call_enumerate_tup ht fun h' he hit hsz hk => wpAny_pyIter_enum he ?_
      have I2 : Inv X pins σ H1 { s1 with heap := h' } := I1.kept (t' := s1.toks) hk
      exact ⟨s1.heap.objs.size + 1, [s1.heap.objs.size + 1, s1.heap.objs.size], _, _, H1, rfl, I2, turn_enumT a (s1.heap.objs.size + 1) s1.heap.objs.size, ⟨⟨.none, he⟩, hit, Nat.succ_ne_self _, Nat.ne_of_lt (Nat.lt_succ_of_lt hlt), Nat.ne_of_lt hlt⟩, fr, q⟩

/-! ### walks -/
section
variable {X : Cx} {c : Gh}
theorem walk_lst {c : Gh} {G : Hp} {a : Addr} {vs : List V} {ds : List D} (h : G a = some (.lst vs)) (hd : DqAll c.K G vs ds) : WalkD c (Itl c.K a) G ds := by
  have hl := hd.length
  refine ⟨fun G' H i s s2 hi => ⟨vs, vs[i], .inl (.inl (s2 _ _ (s _ _ h))), by simp [show i < vs.length by omega]⟩, fun G' H s s2 => ⟨vs, .inl (.inl (s2 _ _ (s _ _ h))), by omega⟩, fun G' H i x H' d s s2 hi y => ?_⟩
  obtain ⟨e, y⟩ := y
  subst e
  have hx := y vs (.inl (.inl (s2 _ _ (s _ _ h))))
  obtain ⟨d', h1, h2⟩ := hd.get' hx
  rw [hi] at h1
  cases h1
  exact .inl ⟨rfl, Dq.sub s _ _ h2⟩
theorem walk_tpl {c : Gh} {G : Hp} {a : Addr} {vs : List V} {ds : List D} (h : SqT c.K G a vs) (hd : DqAll c.K G vs ds) : WalkD c (Itt c.K a) G ds := by
  have hl := hd.length
  refine ⟨fun G' H i s s2 hi => ⟨vs, vs[i], SqT.sub (s.trans s2) h, by simp [show i < vs.length by omega]⟩, fun G' H s s2 => ⟨vs, SqT.sub (s.trans s2) h, by omega⟩, fun G' H i x H' d s s2 hi y => ?_⟩
  obtain ⟨e, y⟩ := y
  subst e
  have hx := y vs (SqT.sub (s.trans s2) h)
  obtain ⟨d', h1, h2⟩ := hd.get' hx
  rw [hi] at h1
  cases h1
  exact .inl ⟨rfl, Dq.sub s _ _ h2⟩
def signs (x : Str) : List D := x.cps.toList.map fun c => .str ⟨#[c]⟩
theorem walk_sig {c : Gh} {G : Hp} {x : Str} : WalkD c (Its x) G (signs x) := by
  have hl : (signs x).length = x.cps.size := by simp [signs]
  refine ⟨fun G' H i s s2 hi => by show i < x.cps.size; omega, fun G' H s s2 => by show x.cps.size ≤ _; omega, fun G' H i v H' d s s2 hi y => ?_⟩
  obtain ⟨e, k, hk, rfl⟩ := y
  subst e
  have : d = .str ⟨#[k]⟩ := by
    simp [signs, hk] at hi
    exact hi.symm
  subst this
  exact .inl ⟨rfl, .str _⟩
def rangeD (lo c : Int) (n : Nat) : List D := (List.range n).map fun i => .int (lo + (i : Nat) * c)
theorem rangeD_get {lo c : Int} {n i : Nat} {d : D} (h : (rangeD lo c n)[i]? = some d) : d = .int (lo + (i : Nat) * c) := by
  simp only [rangeD, List.getElem?_map, Option.map_eq_some_iff] at h
  obtain ⟨j, h1, h2⟩ := h
  rw [List.getElem?_eq_some_iff] at h1
  obtain ⟨w, h1⟩ := h1
  simp at h1
  rw [← h2, h1]
theorem walk_rng {c : Gh} {G : Hp} {lo : Int} {n : Nat} : WalkD c (Itr lo n) G (rangeD lo 1 n) := by
  have hl : (rangeD lo 1 n).length = n := by simp [rangeD]
  refine ⟨fun G' H i s s2 hi => by show i < n; omega, fun G' H s s2 => by show n ≤ _; omega, fun G' H i v H' d s s2 hi y => ?_⟩
  obtain ⟨e, rfl⟩ := y
  subst e
  rw [rangeD_get hi]
  rw [Int.mul_one]
  exact .inl ⟨rfl, .int _⟩
theorem walk_rngC {c : Gh} {G : Hp} {lo k : Int} {n : Nat} : WalkD c (Itc lo k n) G (rangeD lo k n) := by
  have hl : (rangeD lo k n).length = n := by simp [rangeD]
  refine ⟨fun G' H i s s2 hi => by show i < n; omega, fun G' H s s2 => by show n ≤ _; omega, fun G' H i v H' d s s2 hi y => ?_⟩
  obtain ⟨e, rfl⟩ := y
  subst e
  rw [rangeD_get hi]
  exact .inl ⟨rfl, .int _⟩
/-- the items of a shared value: list, tuple, text -/
def fiSeq (f : FE) : FI := fun S => do
  let (r, S1) ← f S
  let z ← giveR r
  match z.2 with
  | .list ds => pure (ds, S1)
  | .tuple ds => pure (ds, S1)
  | .str x => pure (signs x, S1)
  | _ => stk
theorem di_seq {tg e : Expr} {f : FE} (hK : c.K = X.K) (he : PE X e (tE c f)) : PI X tg e (tId c (fiSeq f)) := by
  refine ⟨fun pins s σ H Q I h => ?_⟩
  obtain ⟨G, S, R, ok, ds, S', e, k⟩ := h
  obtain ⟨⟨r, S1⟩, e1, e⟩ := bind_ok e
  obtain ⟨z, e2, e⟩ := bind_ok e
  have base : ∀ (P : V → Hp → Prop), (∀ G' v H', Sub G G' → SOk c G' H' σ S1 R → Dq c.K G' v z.2 → P v H') → tE c f σ H P := fun P hP => by
    refine ⟨G, S, R, ok, r, S1, e1, fun G' v H' s ok' => ?_⟩
    obtain ⟨hz, G2, s2, rl2⟩ := Rel.give ok'.rel e2
    rw [hz] at hP
    exact hP G2 v H' (s.trans s2) ⟨ok'.cov, rl2.drop⟩ rl2.sh_of
  obtain ⟨m, d⟩ := z
  simp only at e base
  cases d with
  | list es =>
    cases e
    refine (pi_list he).run pins s σ H Q I (base _ fun G' v H' s' ok' hd => ?_)
    cases hd with
    | lst a b => exact ⟨_, rfl, ⟨_, .inl (.inl (ok'.sub _ _ a))⟩, by rw [← hK]; exact k _ G' H' s' ok' (walk_lst a b)⟩
  | tuple es =>
    cases e
    refine (pi_tup he).run pins s σ H Q I (base _ fun G' v H' s' ok' hd => ?_)
    cases hd with
    | tup a b => exact ⟨_, rfl, ⟨_, by rw [← hK]; exact SqT.sub ok'.sub a⟩, by rw [← hK]; exact k _ G' H' s' ok' (walk_tpl a b)⟩
  | str x =>
    cases e
    refine (pi_str he).run pins s σ H Q I (base _ fun G' v H' s' ok' hd => ?_)
    cases hd
    exact ⟨_, rfl, k _ G' H' s' ok' walk_sig⟩
  | _ => cases e
def small62 (i : Int) : Bool := decide (-(2 ^ 62) ≤ i) && decide (i < 2 ^ 62)
theorem small62_ok {i : Int} (h : small62 i = true) : -(2 ^ 62) ≤ i ∧ i < 2 ^ 62 := by
  unfold small62 at h
  rw [Bool.and_eq_true, decide_eq_true_eq, decide_eq_true_eq] at h
  exact h
/-- what range gives -/
abbrev SemL := List D → M (List D)
def rng1 : SemL
  | [.int j] => if small62 j then .ok (rangeD 0 1 j.toNat) else stk
  | _ => stk
def rng2 : SemL
  | [.int i, .int j] => if small62 i && small62 j then .ok (rangeD i 1 (j - i).toNat) else stk
  | _ => stk
def rng3 : SemL
  | [.int i, .int j, .int k] => if small62 i && small62 j && (k == -1) then .ok (rangeD i (-1) (i - j).toNat) else stk
  | _ => stk
def fiA (sem : List MV → M (List D)) (f : FA) : FI := fun S => do
  let (ts, S1) ← f S
  let rs ← tkGets ts S1
  let ds ← sem rs
  pure (ds, S1)
/-- .. of what is told by its data alone -/
def onD (sem : SemL) : List MV → M (List D) := fun rs => sem (rs.map (·.2))
theorem views_ints {c : Gh} {G H : Hp} {L : List T3} (rl : Rel c G H L) : ∀ {is : List Int} {rs : List MV} {vs : List V}, Views c G H rs vs → rs.map (·.2) = is.map PyData.int → vs = is.map V.int := by
  intro is
  induction is with
  | nil =>
    intro rs vs h e
    cases rs with
    | nil => cases h; rfl
    | cons => simp at e
  | cons i is ih =>
    intro rs vs h e
    cases h with
    | nil => simp at e
    | cons a b =>
      simp only [List.map_cons, List.cons.injEq] at e
      have := a.dp rl
      rw [e.1] at this
      cases this
      rw [ih b e.2]; rfl
theorem fiA_read {sem : List MV → M (List D)} {f : FA} {σ : L2.St} {H : Hp} {Q : It → Hp → Prop} (h : tId c (fiA sem f) σ H Q) : tA c f σ H fun vs H1 => ∃ G S' R rs ds L, SOk c G H1 σ S' R ∧ Rel c G H1 L ∧ Views c G H1 rs vs ∧ sem rs = .ok ds ∧ ∀ J G' H', Sub G G' → SOk c G' H' σ S' R → WalkD c J G' ds → Q J H' := by
  obtain ⟨G, S, R, ok, ds, S', e, k⟩ := h
  obtain ⟨⟨ts, S1⟩, e1, e⟩ := bind_ok e
  obtain ⟨rs, e2, e⟩ := bind_ok e
  obtain ⟨ds', e3, e⟩ := bind_ok e
  cases e
  refine ⟨G, S, R, ok, ts, _, e1, fun G1 vs H1 s1 h1 ok1 => ?_⟩
  have hv := tks_views ok1 (fun x hx => List.mem_append_left _ hx) h1 e2
  have fin : SOk c G1 H1 σ S' R := ⟨ok1.cov, ok1.rel.sublist (List.Sublist.append_right (List.sublist_append_right _ _) _)⟩
  exact ⟨G1, S', R, rs, ds, _, fin, ok1.rel, hv, e3, fun J G' H' s => k J G' H' (s1.trans s)⟩
theorem di_rng1 {tg a : Expr} {f : FA} {p pos : Pos} (hg : Gl X "range") (hm : X.mg "range" = none) (ha : PA X [a] (tA c f)) (hs : starEach [a] X.env = [(false, eval a X.env)] := by rfl) : PI X tg (.Call (.Name "range" p) [a] [] pos) (tId c (fiA (onD rng1) f)) := by
  refine pimono (pi_range1 hg hm ha hs) fun σ H Q h => ?_
  obtain ⟨G, S, R, ok, ts, S1, e1, k1⟩ := fiA_read h
  refine ⟨G, S, R, ok, ts, S1, e1, fun G1 vs H1 s1 h1 ok1 => ?_⟩
  obtain ⟨G2, S2, R2, rs, ds, L, ok2, rl, hv, e, k⟩ := k1 G1 vs H1 s1 h1 ok1
  unfold onD rng1 at e
  split at e
  · rename_i j hj
    split at e
    · rename_i hs'
      cases e
      have := small62_ok hs'
      exact ⟨j, views_ints rl (is := [j]) hv hj, this.1, this.2, k _ G2 H1 (Sub.refl _) ok2 walk_rng⟩
    · cases e
  · cases e
theorem di_rng2 {tg a b : Expr} {f : FA} {p pos : Pos} (hg : Gl X "range") (hm : X.mg "range" = none) (ha : PA X [a, b] (tA c f)) (hs : starEach [a, b] X.env = [(false, eval a X.env), (false, eval b X.env)] := by rfl) (hs2 : starEach [b] X.env = [(false, eval b X.env)] := by rfl) : PI X tg (.Call (.Name "range" p) [a, b] [] pos) (tId c (fiA (onD rng2) f)) := by
  refine pimono (pi_range2 hg hm ha hs hs2) fun σ H Q h => ?_
  obtain ⟨G, S, R, ok, ts, S1, e1, k1⟩ := fiA_read h
  refine ⟨G, S, R, ok, ts, S1, e1, fun G1 vs H1 s1 h1 ok1 => ?_⟩
  obtain ⟨G2, S2, R2, rs, ds, L, ok2, rl, hv, e, k⟩ := k1 G1 vs H1 s1 h1 ok1
  unfold onD rng2 at e
  split at e
  · rename_i i j hj
    split at e
    · rename_i hs'
      cases e
      rw [Bool.and_eq_true] at hs'
      have a1 := small62_ok hs'.1
      have a2 := small62_ok hs'.2
      exact ⟨i, j, views_ints rl (is := [i, j]) hv hj, ⟨a1.1, a1.2, a2.1, a2.2⟩, k _ G2 H1 (Sub.refl _) ok2 walk_rng⟩
    · cases e
  · cases e
theorem di_rng3 {tg a b d : Expr} {f : FA} {p pos : Pos} (hg : Gl X "range") (hm : X.mg "range" = none) (ha : PA X [a, b, d] (tA c f)) (hs : starEach [a, b, d] X.env = (false, eval a X.env) :: starEach [b, d] X.env := by rfl) (hpl : (backTo pos (starEach [b, d] X.env)).any (·.1) = false := by rfl) : PI X tg (.Call (.Name "range" p) [a, b, d] [] pos) (tId c (fiA (onD rng3) f)) := by
  refine pimono (pi_range3 hg hm ha hs hpl) fun σ H Q h => ?_
  obtain ⟨G, S, R, ok, ts, S1, e1, k1⟩ := fiA_read h
  refine ⟨G, S, R, ok, ts, S1, e1, fun G1 vs H1 s1 h1 ok1 => ?_⟩
  obtain ⟨G2, S2, R2, rs, ds, L, ok2, rl, hv, e, k⟩ := k1 G1 vs H1 s1 h1 ok1
  unfold onD rng3 at e
  split at e
  · rename_i i j q hj
    split at e
    · rename_i hs'
      cases e
      rw [Bool.and_eq_true, Bool.and_eq_true] at hs'
      have a1 := small62_ok hs'.1.1
      have a2 := small62_ok hs'.1.2
      have hq : q = -1 := by simpa using hs'.2
      subst hq
      exact ⟨i, j, -1, _, views_ints rl (is := [i, j, -1]) hv hj, RgC.neg a1.1 a1.2 a2.1 a2.2, k _ G2 H1 (Sub.refl _) ok2 walk_rngC⟩
    · cases e
  · cases e
/-! enumerate, zip: of shared sequences -/
def seqSh : MV → M (List D)
  | (.sh, .list ds) => .ok ds
  | (.sh, .tuple ds) => .ok ds
  | _ => stk
theorem seqSh_ok {c : Gh} {G H : Hp} {r : MV} {v : V} {ds : List D} (h : View c G H r v) (e : seqSh r = .ok ds) : ∃ a vs, v = .ref a ∧ ((r.2 = .list ds ∧ G a = some (.lst vs)) ∨ (r.2 = .tuple ds ∧ SqT c.K G a vs)) ∧ DqAll c.K G vs ds := by
  obtain ⟨m, d⟩ := r
  unfold seqSh at e
  split at e
  · rename_i q
    cases q; cases e
    cases sh_dq h with
    | lst a b => exact ⟨_, _, rfl, .inl ⟨rfl, a⟩, b⟩
  · rename_i q
    cases q; cases e
    cases sh_dq h with
    | tup a b => exact ⟨_, _, rfl, .inr ⟨rfl, a⟩, b⟩
  · cases e
def enumOf : List MV → M (List D)
  | [r] => do
    let ds ← seqSh r
    pure (ds.zipIdx.map fun x => .tuple [.int (x.2 : Nat), x.1])
  | _ => stk
def enD (ds : List D) : List D := ds.zipIdx.map fun x => .tuple [.int (x.2 : Nat), x.1]
theorem enD_get {ds : List D} {i : Nat} {d : D} (h : (enD ds)[i]? = some d) : ∃ e, ds[i]? = some e ∧ d = .tuple [.int (i : Nat), e] := by
  unfold enD at h
  rw [List.getElem?_map, Option.map_eq_some_iff] at h
  obtain ⟨⟨x, j⟩, h1, h2⟩ := h
  rw [List.getElem?_zipIdx] at h1
  simp at h1
  obtain ⟨y, h1, rfl, rfl⟩ := h1
  exact ⟨_, h1, h2.symm⟩
theorem enD_len {ds : List D} : (enD ds).length = ds.length := by simp [enD]
theorem walk_enL {G : Hp} {a : Addr} {vs : List V} {ds : List D} (h : G a = some (.lst vs)) (hd : DqAll c.K G vs ds) : WalkD c (Ite c.K a) G (enD ds) := by
  have hl := hd.length
  have hl2 := enD_len (ds := ds)
  refine ⟨fun G' H i s s2 hi => ⟨vs, vs[i], .inl (.inl (s2 _ _ (s _ _ h))), by simp [show i < vs.length by omega]⟩, fun G' H s s2 => ⟨vs, .inl (.inl (s2 _ _ (s _ _ h))), by omega⟩, fun G' H i x H' d s s2 hi y => ?_⟩
  obtain ⟨T, y, rfl, hT, rfl, hx⟩ := y
  have hx := hx vs (.inl (.inl (s2 _ _ (s _ _ h))))
  obtain ⟨d', h1, h2⟩ := hd.get' hx
  obtain ⟨e, h3, rfl⟩ := enD_get hi
  rw [h1] at h3
  cases h3
  exact .inr ⟨T, _, _, rfl, hT, rfl, rfl, .cons (.int _) (.cons (Dq.sub s _ _ h2) .nil)⟩
theorem walk_enT {G : Hp} {a : Addr} {vs : List V} {ds : List D} (h : SqT c.K G a vs) (hd : DqAll c.K G vs ds) : WalkD c (IteT c.K a) G (enD ds) := by
  have hl := hd.length
  have hl2 := enD_len (ds := ds)
  refine ⟨fun G' H i s s2 hi => ⟨vs, vs[i], SqT.sub (s.trans s2) h, by simp [show i < vs.length by omega]⟩, fun G' H s s2 => ⟨vs, SqT.sub (s.trans s2) h, by omega⟩, fun G' H i x H' d s s2 hi y => ?_⟩
  obtain ⟨T, y, rfl, hT, rfl, hx⟩ := y
  have hx := hx vs (SqT.sub (s.trans s2) h)
  obtain ⟨d', h1, h2⟩ := hd.get' hx
  obtain ⟨e, h3, rfl⟩ := enD_get hi
  rw [h1] at h3
  cases h3
  exact .inr ⟨T, _, _, rfl, hT, rfl, rfl, .cons (.int _) (.cons (Dq.sub s _ _ h2) .nil)⟩
theorem di_enum {e : Expr} {f : FA} {p pos tpos : Pos} {elts : List Expr} {kk : Nat} (hK : c.K = X.K) (hg : Gl X "enumerate") (hm : X.mg "enumerate" = none) (ha : PA X [e] (tA c f)) (hs : starEach [e] X.env = [(false, eval e X.env)] := by rfl) :
    PI X (.Tuple elts kk tpos) (.Call (.Name "enumerate" p) [e] [] pos) (tId c (fiA enumOf f)) := by
  refine pimono (pi_enumA hg hm ha hs) fun σ H Q h => ?_
  obtain ⟨G, S, R, ok, ts, S1, e1, k1⟩ := fiA_read h
  refine ⟨G, S, R, ok, ts, S1, e1, fun G1 vs H1 s1 h1 ok1 => ?_⟩
  obtain ⟨G2, S2, R2, rs, ds, L, ok2, rl, hv, e, k⟩ := k1 G1 vs H1 s1 h1 ok1
  unfold enumOf at e
  split at e
  · obtain ⟨v, rfl, hw⟩ := views1 hv
    obtain ⟨es, e2, e⟩ := bind_ok e
    cases e
    obtain ⟨a, us, rfl, hq, hd⟩ := seqSh_ok hw e2
    rw [← hK]
    refine ⟨a, us, rfl, ?_⟩
    rcases hq with ⟨_, hq⟩ | ⟨_, hq⟩
    · exact .inl ⟨.inl (.inl (rl.sub _ _ hq)), k _ G2 H1 (Sub.refl _) ok2 (walk_enL hq hd)⟩
    · exact .inr ⟨SqT.sub rl.sub hq, k _ G2 H1 (Sub.refl _) ok2 (walk_enT hq hd)⟩
  · cases e
def zpD (ds es : List D) : List D := (ds.zip es).map fun x => .tuple [x.1, x.2]
def kindD : D → Bool
  | .list _ => true
  | _ => false
def zipOf : List MV → M (List D)
  | [r, q] => do
    let ds ← seqSh r
    let es ← seqSh q
    if kindD r.2 == kindD q.2 then pure (zpD ds es) else stk
  | _ => stk
theorem zpD_get {ds es : List D} {i : Nat} {d : D} (h : (zpD ds es)[i]? = some d) : ∃ x y, ds[i]? = some x ∧ es[i]? = some y ∧ d = .tuple [x, y] := by
  unfold zpD at h
  rw [List.getElem?_map, Option.map_eq_some_iff] at h
  obtain ⟨⟨x, y⟩, h1, h2⟩ := h
  rw [List.getElem?_zip_eq_some] at h1
  exact ⟨x, y, h1.1, h1.2, h2.symm⟩
theorem zpD_len {ds es : List D} : (zpD ds es).length = min ds.length es.length := by simp [zpD]
theorem walk_zpL {G : Hp} {a b : Addr} {vs us : List V} {ds es : List D} (h : G a = some (.lst vs)) (h' : G b = some (.lst us)) (hd : DqAll c.K G vs ds) (he : DqAll c.K G us es) : WalkD c (Itz c.K a b) G (zpD ds es) := by
  have hl := hd.length
  have hl' := he.length
  have hl2 := zpD_len (ds := ds) (es := es)
  refine ⟨fun G' H i s s2 hi => ⟨vs, us, vs[i], us[i], .inl (.inl (s2 _ _ (s _ _ h))), .inl (.inl (s2 _ _ (s _ _ h'))), by simp [show i < vs.length by omega], by simp [show i < us.length by omega]⟩, fun G' H s s2 => ⟨vs, us, .inl (.inl (s2 _ _ (s _ _ h))), .inl (.inl (s2 _ _ (s _ _ h'))), by omega⟩, fun G' H i x H' d s s2 hi y => ?_⟩
  obtain ⟨T, y, z, rfl, hT, rfl, hx, hy⟩ := y
  have hx := hx vs (.inl (.inl (s2 _ _ (s _ _ h))))
  have hy := hy us (.inl (.inl (s2 _ _ (s _ _ h'))))
  obtain ⟨d1, h1, h2⟩ := hd.get' hx
  obtain ⟨d2, h3, h4⟩ := he.get' hy
  obtain ⟨e1, e2, h5, h6, rfl⟩ := zpD_get hi
  rw [h1] at h5
  rw [h3] at h6
  cases h5; cases h6
  exact .inr ⟨T, _, _, rfl, hT, rfl, rfl, .cons (Dq.sub s _ _ h2) (.cons (Dq.sub s _ _ h4) .nil)⟩
theorem walk_zpT {G : Hp} {a b : Addr} {vs us : List V} {ds es : List D} (h : SqT c.K G a vs) (h' : SqT c.K G b us) (hd : DqAll c.K G vs ds) (he : DqAll c.K G us es) : WalkD c (RZ.ItzT c.K a b) G (zpD ds es) := by
  have hl := hd.length
  have hl' := he.length
  have hl2 := zpD_len (ds := ds) (es := es)
  refine ⟨fun G' H i s s2 hi => ⟨vs, us, vs[i], us[i], SqT.sub (s.trans s2) h, SqT.sub (s.trans s2) h', by simp [show i < vs.length by omega], by simp [show i < us.length by omega]⟩, fun G' H s s2 => ⟨vs, us, SqT.sub (s.trans s2) h, SqT.sub (s.trans s2) h', by omega⟩, fun G' H i x H' d s s2 hi y => ?_⟩
  obtain ⟨T, y, z, rfl, hT, rfl, hx, hy⟩ := y
  have hx := hx vs (SqT.sub (s.trans s2) h)
  have hy := hy us (SqT.sub (s.trans s2) h')
  obtain ⟨d1, h1, h2⟩ := hd.get' hx
  obtain ⟨d2, h3, h4⟩ := he.get' hy
  obtain ⟨e1, e2, h5, h6, rfl⟩ := zpD_get hi
  rw [h1] at h5
  rw [h3] at h6
  cases h5; cases h6
  exact .inr ⟨T, _, _, rfl, hT, rfl, rfl, .cons (Dq.sub s _ _ h2) (.cons (Dq.sub s _ _ h4) .nil)⟩
theorem di_zip {e e2 : Expr} {f : FA} {p pos tpos : Pos} {elts : List Expr} {kk : Nat} (hK : c.K = X.K) (hg : Gl X "zip") (hm : X.mg "zip" = none) (ha : PA X [e, e2] (tA c f))
    (hs : starEach [e, e2] X.env = (false, eval e X.env) :: starEach [e2] X.env := by rfl) (hpl : (backTo pos (starEach [e2] X.env)).any (·.1) = false := by rfl) :
    PI X (.Tuple elts kk tpos) (.Call (.Name "zip" p) [e, e2] [] pos) (tId c (fiA zipOf f)) := by
  refine pimono (RZ.pi_zipA hg hm ha hs hpl) fun σ H Q h => ?_
  obtain ⟨G, S, R, ok, ts, S1, e1, k1⟩ := fiA_read h
  refine ⟨G, S, R, ok, ts, S1, e1, fun G1 vs H1 s1 h1 ok1 => ?_⟩
  obtain ⟨G2, S2, R2, rs, ds, L, ok2, rl, hv, e, k⟩ := k1 G1 vs H1 s1 h1 ok1
  unfold zipOf at e
  split at e
  · obtain ⟨v, w, rfl, hw, hw'⟩ := views2 hv
    obtain ⟨es, e2, e⟩ := bind_ok e
    obtain ⟨es', e3, e⟩ := bind_ok e
    split at e
    · rename_i hk
      cases e
      obtain ⟨a, us, rfl, hq, hd⟩ := seqSh_ok hw e2
      obtain ⟨b, us', rfl, hq', hd'⟩ := seqSh_ok hw' e3
      rw [← hK]
      refine ⟨a, b, us, us', rfl, ?_⟩
      rcases hq with ⟨z, hq⟩ | ⟨z, hq⟩
      · rcases hq' with ⟨z', hq'⟩ | ⟨z', hq'⟩
        · exact .inl ⟨.inl (.inl (rl.sub _ _ hq)), .inl (.inl (rl.sub _ _ hq')), k _ G2 H1 (Sub.refl _) ok2 (walk_zpL hq hq' hd hd')⟩
        · rw [z, z'] at hk; cases hk
      · rcases hq' with ⟨z', hq'⟩ | ⟨z', hq'⟩
        · rw [z, z'] at hk; cases hk
        · exact .inr ⟨SqT.sub rl.sub hq, SqT.sub rl.sub hq', k _ G2 H1 (Sub.refl _) ok2 (walk_zpT hq hq' hd hd')⟩
    · cases e
  · cases e
end
end O
set_option maxRecDepth 100000
set_option maxHeartbeats 1000000
namespace HT
open PySem PySem.Spec PyProof.Rows L2
section
variable {prog : Program} {w : World} {A : Around} {E : Value → Shared → Prop} {s : Shared}
theorem places_rev (n : Nat) : Builtin.Slice.slicePlaces ((n : Int) - 1) (-1) (-1) = n := by
  unfold Builtin.Slice.slicePlaces
  have h1 : ¬ ((-1 : Int) > 0) := by omega
  simp only [h1, if_false]
  split
  · have : ((n : Int) - 1 - -1 - 1) / (- -1) + 1 = (n : Int) := by
      have e : (- -1 : Int) = 1 := by omega
      rw [e, Int.ediv_one]; omega
    first
      | (simp only [Int.neg_neg, Int.ediv_one]; omega)
      | omega
  · omega
theorem sliceApplied_rev {sl : Addr} {vl vu : Value} {t : Tok} {n : Nat} {Q : Int × Int × Nat → Shared → Prop} (hs : s.heap.IsSliceOf sl vl vu (.int (-1) t)) (pl : IsPart vl none) (pu : IsPart vu none)
    (h : Q ((n : Int) - 1, -1, n) s) : wpAny (model prog w) A (Builtin.Slice.sliceApplied (.ref sl) (pure (n : Int))) Q E s := by
  obtain ⟨os, hos, hcs, hds⟩ := id hs
  unfold Builtin.Slice.sliceApplied Builtin.Slice.sliceFields
  refine wpAny_bind (wpAny_bind (wpAny_field hos hds (x := vl) rfl (wpAny_bind (wpAny_field hos hds (x := vu) rfl (wpAny_bind (wpAny_field hos hds (x := .int (-1) t) rfl (wpAny_pure ?_)))))))
  refine wpAny_bind (slicePart_ (.int (-1) t) ?_)
  show wpAny _ _ (if ((-1 : Int) == 0) = true then _ else _) _ _ s
  rw [if_neg (by decide)]
  refine wpAny_bind (slicePart_ pl (wpAny_bind (slicePart_ pu (wpAny_bind (wpAny_pure ?_)))))
  show wpAny _ _ (match Builtin.Slice.sliceAdjust none none (-1) (n : Int) with | (lo, hi) => pure (lo, (-1 : Int), Builtin.Slice.slicePlaces lo hi (-1))) _ _ s
  have e : Builtin.Slice.sliceAdjust none none (-1) (n : Int) = ((n : Int) - 1, -1) := by
    unfold Builtin.Slice.sliceAdjust
    rfl
  rw [e]
  show wpAny _ _ (pure ((n : Int) - 1, (-1 : Int), Builtin.Slice.slicePlaces ((n : Int) - 1) (-1) (-1))) _ _ s
  rw [places_rev]
  exact wpAny_pure h
theorem fm_congr {α β : Type} {f g : α → Option β} : ∀ (l : List α), (∀ x ∈ l, f x = g x) → l.filterMap f = l.filterMap g
  | [], _ => rfl
  | a :: l, h => by
    rw [List.filterMap_cons, List.filterMap_cons, h a List.mem_cons_self, fm_congr l fun x hx => h x (List.mem_cons_of_mem _ hx)]
theorem pick_rev (xs : Array Value) : ((List.range xs.size).filterMap fun (m : Nat) => xs[(((xs.size : Int) - 1) + (m : Int) * (-1)).toNat]?).toArray = xs.toList.reverse.toArray := by
  have e : (List.range xs.size).filterMap (fun (m : Nat) => xs[(((xs.size : Int) - 1) + (m : Int) * (-1)).toNat]?) = ((List.range xs.size).map (fun k => xs.size - 1 - k)).filterMap (xs[·]?) := by
    rw [List.filterMap_map]
    refine fm_congr _ fun m hm => ?_
    have hm := List.mem_range.mp hm
    have e1 : (((xs.size : Int) - 1) + (m : Int) * (-1)).toNat = xs.size - 1 - m := by omega
    show xs[(((xs.size : Int) - 1) + (m : Int) * (-1)).toNat]? = xs[xs.size - 1 - m]?
    rw [e1]
  rw [e, PySem.W.krv_range, List.filterMap_reverse, PySem.W.krv_all]
theorem getItem_tuple_rev {t sl : Addr} {items : Array Value} {vl vu : Value} {u : Tok} {Q : Value → Shared → Prop} (ht : IsTup s.heap t items) (hs : s.heap.IsSliceOf sl vl vu (.int (-1) u)) (pl : IsPart vl none) (pu : IsPart vu none)
    (h : Q (.ref s.heap.objs.size) { s with heap := s.heap.push { cls := .type "tuple", data := .seq items.toList.reverse.toArray } })
    (hsz : items.size ≤ sizeLine) : wpAny (model prog w) A (getItem (.ref t) (.ref sl)) Q E s := by
  have htake : sizeOk (.seq items.toList.reverse.toArray) := by
    show items.toList.reverse.toArray.size ≤ sizeLine
    rw [List.size_toArray, List.length_reverse, Array.length_toList]
    omega
  obtain ⟨os, hos, hcs, hds⟩ := id hs
  have hTs : s.TypeIs (.ref sl) "slice" := ⟨os, hos, hcs⟩
  unfold getItem
  try with_reducible refine wpAny_holding ?_
  first | refine wpAny_bind (wpAny_pure ?_) | skip
  refine wpAny_bind (wpAny_sequenceKey ht.typeIs (by decide) ?_)
  refine wpAny_bind (wpAny_callSpecial?_slot (name := Str.ofString "__getitem__") ht.typeIs PyProof.Rows.slot_tuple_getitem
    (wpAny_call_entry PyProof.Rows.slot_tuple_getitem ht.typeIs entry_tuple_getitem ?_ (args_tuple_getitem _ _)))
  show wpAny _ _ (Builtin.Tuple.tupleItemsOf (.ref t) >>= _) _ _ s
  refine wpAny_bind (tupleItemsOf_ ht ?_)
  refine wpAny_bind (wpAny_typeOf hTs ?_)
  rw [if_pos (by decide)]
  refine wpAny_bind (sliceApplied_rev hs pl pu ?_)
  have hno : ¬ ((((items.size : Int) - 1) == 0 && (-1 : Int) == 1 && items.size == items.size) = true) := by
    rw [show ((-1 : Int) == 1) = false from rfl, Bool.and_false, Bool.false_and]
    exact Bool.false_ne_true
  show wpAny _ _ (if (((items.size : Int) - 1) == 0 && (-1 : Int) == 1 && items.size == items.size) = true then _ else _) _ _ s
  rw [if_neg hno, pick_rev]
  first
    | exact wpAny_bind (m := Builtin.Tuple.tupleExact _) (wpAny_newObj_type (wpAny_pure ⟨_, rfl, wpAny_pure h⟩) htake)
    | exact wpAny_bind (m := Builtin.Tuple.tupleExact _) (wpAny_newObj_type (wpAny_bind (wpAny_pure (wpAny_pure ⟨_, rfl, wpAny_pure h⟩))) htake)
    | exact wpAny_bind (wpAny_bind (m := Builtin.Tuple.tupleExact _) (wpAny_newObj_type (wpAny_pure (wpAny_pure ⟨_, rfl, wpAny_pure h⟩)) htake))
    | exact wpAny_bind (wpAny_bind (m := Builtin.Tuple.tupleExact _) (wpAny_newObj_type (wpAny_pure ⟨_, rfl, wpAny_pure h⟩) htake))
end
end HT

namespace O
open PySem PySem.Spec PyProof.Rows L2
/-! ### a[i] -/
def itemOf (r : MV) (i : Int) : M MV := match r with
  | (.sh, .list ds) => match atI ds i with
    | some d => .ok (.sh, d)
    | none => stk
  | (.ow .sh, .list ds) => match atI ds i with
    | some d => .ok (.sh, d)
    | none => stk
  | (.sh, .tuple ds) => match atI ds i with
    | some d => .ok (.sh, d)
    | none => stk
  | (.bo, .list ds) => match atI ds i with
    | some d => .ok (.bo, d)
    | none => stk
  | (.bo, .tuple ds) => match atI ds i with
    | some d => .ok (.bo, d)
    | none => stk
  | (.bx, .list (_ :: ds)) => if 1 ≤ i then match ds[(i - 1).toNat]? with
    | some d => .ok (.sh, d)
    | none => stk else stk
  | (_, .str x) => if x.length ≤ sizeLine then match atI x.cps.toList i with
    | some k => .ok (.sh, .str ⟨#[k]⟩)
    | none => stk else stk
  | _ => stk
def semIx : Sem2 := fun a b => match b.2 with
  | .int i => itemOf a i
  | _ => stk
section
variable {X : Cx} {c : Gh}
theorem atI_dq {K : PySem.W.Frag} {G : Hp} {vs : List V} {ds : List D} {i : Int} {d : D} (h : DqAll K G vs ds) (e : atI ds i = some d) : ∃ v, atI vs i = some v ∧ Dq K G v d := by
  unfold atI at e ⊢
  rw [h.length]
  cases hx : ixN ds.length i with
  | none => rw [hx] at e; cases e
  | some j =>
    rw [hx] at e
    exact h.get e
theorem ix_core (hK : c.K = X.K) : IxR X (r2D c semIx) := by
  intro value slice pins s σ H x y v u Q I rx ry h hs
  obtain ⟨G, L, ra, rb, r, rl, va, vb, e, k⟩ := h
  obtain ⟨n, d'⟩ := rb
  unfold semIx at e
  simp only at e
  split at e
  · rename_i i
    have hy := int_of rl vb
    subst hy
    have goL : ∀ a vs w, x = .ref a → SqL X.K H a vs → atI vs i = some w → Q w H → _ := fun a vs w e1 e2 e3 e4 => ix_list value slice pins s σ H x (.int i) v u Q I rx ry ⟨a, vs, i, w, e1, rfl, e2, e3, e4⟩ hs
    have goT : ∀ a vs w, x = .ref a → SqT X.K H a vs → atI vs i = some w → Q w H → _ := fun a vs w e1 e2 e3 e4 => ix_tup value slice pins s σ H x (.int i) v u Q I rx ry ⟨a, vs, i, w, e1, rfl, e2, e3, e4⟩ hs
    unfold itemOf at e
    split at e
    · split at e
      · rename_i hat
        cases e
        cases sh_dq va with
        | lst a b =>
          obtain ⟨w, h1, h2⟩ := atI_dq b hat
          exact goL _ _ w rfl (.inl (.inl (rl.sub _ _ a))) h1 (k G w H (Sub.refl G) (rl.put_sh h2))
      · cases e
    · split at e
      · rename_i hat
        cases e
        obtain ⟨F, va⟩ := va
        obtain ⟨a, vs, ds, rfl, h2, h3, h4, _⟩ := of_rep_ow va
        cases h2
        obtain ⟨w, h1, h2⟩ := atI_dq h4 hat
        exact goL _ _ w rfl (.inl (.inl h3)) h1 (k G w H (Sub.refl G) (rl.put_sh h2))
      · cases e
    · split at e
      · rename_i hat
        cases e
        cases sh_dq va with
        | tup a b =>
          obtain ⟨w, h1, h2⟩ := atI_dq b hat
          exact goT _ _ w rfl (by rw [← hK]; exact SqT.sub rl.sub a) h1 (k G w H (Sub.refl G) (rl.put_sh h2))
      · cases e
    · split at e
      · rename_i hat
        cases e
        obtain ⟨F, va⟩ := va
        have va : Dq c.K (un G c.B) x _ := va.2
        cases va with
        | lst a b =>
          obtain ⟨w, h1, h2⟩ := atI_dq b hat
          exact goL _ _ w rfl (.inl (.inl ((rl.sub.of_un rl.subB) _ _ a))) h1 (k G w H (Sub.refl G) (rl.put_bo h2))
      · cases e
    · split at e
      · rename_i hat
        cases e
        obtain ⟨F, va⟩ := va
        have va : Dq c.K (un G c.B) x _ := va.2
        cases va with
        | tup a b =>
          obtain ⟨w, h1, h2⟩ := atI_dq b hat
          exact goT _ _ w rfl (by rw [← hK]; exact SqT.sub (rl.sub.of_un rl.subB) a) h1 (k G w H (Sub.refl G) (rl.put_bo h2))
      · cases e
    · split at e
      · rename_i h1
        split at e
        · rename_i hat
          cases e
          obtain ⟨F, va⟩ := va
          obtain ⟨p, q, vs, ws, ds', es', rfl, hd, h3, h4, h5, h6, _⟩ := va
          cases hd
          obtain ⟨w, h7, h8⟩ := h5.get hat
          have hn : (i - 1).toNat < vs.length := lt_of_get h7
          refine goL p (.ref q :: vs) w rfl (.inl (.inl h3)) ?_ (k G w H (Sub.refl G) (rl.put_sh h8))
          have e1 : i = (((i - 1).toNat + 1 : Nat) : Int) := by omega
          rw [e1]
          exact atI_nat (by simpa using h7)
        · cases e
      · cases e
    · split at e
      · rename_i hl
        split at e
        · rename_i hat
          cases e
          have hx := str_of rl va
          subst hx
          exact ix_str value slice pins s σ H _ (.int i) v u Q I rx ry ⟨_, i, _, rfl, rfl, hl, hat, k G _ H (Sub.refl G) (rl.put_sh (.str _))⟩ hs
        · cases e
      · cases e
    · cases e
  · cases e
theorem de_ix {a b : Expr} {oa ob : FO} {pos : Pos} (hK : c.K = X.K) (ha : PE X a (tO c oa)) (hb : PE X b (tO c ob)) (hs : PlainIx b := by exact fun _ _ => rfl) : PE X (.Subscript a b pos) (tE c (fOp2 semIx oa ob)) :=
  pemono (pe_ix (ix_core hK) ha hb hs) fun _ _ _ h => op2_read h
/-! ### slices -/
abbrev FPt := SS → M (Option Int × SS)
def tPt (c : Gh) (f : FPt) : TO := fun σ H Q => ∃ G S R, SOk c G H σ S R ∧ ∃ o S', f S = .ok (o, S') ∧ ∀ G' H', Sub G G' → SOk c G' H' σ S' R → Q o H'
def fPN : FPt := fun S => .ok (none, S)
def fPS (f : FE) : FPt := fun S => do
  let (r, S1) ← f S
  match r.2 with
  | .int i => pure (some i, S1)
  | _ => stk
theorem pomono {e : Option Expr} {t t' : TO} (h : PO X e t) (k : ∀ σ H Q, t' σ H Q → t σ H Q) : PO X e t' := ⟨fun pins s σ H Q I q => h.run pins s σ H Q I (k σ H Q q)⟩
theorem dp_none : PO X none (tPt c fPN) := pomono po_none fun σ H Q h => by
  obtain ⟨G, S, R, ok, o, S', e, k⟩ := h
  cases e
  exact k G H (Sub.refl G) ok
theorem dp_some {e : Expr} {f : FE} (h : PE X e (tE c f)) : PO X (some e) (tPt c (fPS f)) := pomono (po_some h) fun σ H Q h => by
  obtain ⟨G, S, R, ok, o, S', e, k⟩ := h
  obtain ⟨⟨⟨m, d⟩, S1⟩, e1, e⟩ := bind_ok e
  simp only at e
  split at e
  · cases e
    refine ⟨G, S, R, ok, _, _, e1, fun G' v H' s ok' => ?_⟩
    exact ⟨_, int_of ok'.rel (ok'.rel.view (m := m) List.mem_cons_self), k G' H' s ⟨ok'.cov, ok'.rel.drop⟩⟩
  · cases e
def cutD {α : Type} (xs : List α) (lo hi : Option Int) : List α := (xs.drop (HT.sIx xs.length 0 lo)).take (HT.sIx xs.length xs.length hi - HT.sIx xs.length 0 lo)
def cutOf (r : MV) (lo hi : Option Int) : M MV := match r with
  | (_, .str x) => if x.length ≤ sizeLine then .ok (.sh, .str (L2.cutS x lo hi)) else stk
  | (.sh, .tuple ds) => .ok (.sh, .tuple (cutD ds lo hi))
  | r => match r.2 with
    | .list _ => do
      let ds ← kids r
      pure (.ow .sh, .list (cutD ds lo hi))
    | _ => stk
theorem DqAll.cut {K : PySem.W.Frag} {G : Hp} {vs : List V} {ds : List D} (h : DqAll K G vs ds) (lo hi : Option Int) : DqAll K G (cutV vs lo hi) (cutD ds lo hi) := by
  unfold cutV cutD
  rw [h.length]
  exact (h.drop _).take _
theorem cutV_whole {vs : List V} {lo hi : Option Int} (h : HT.sIx vs.length 0 lo = 0 ∧ HT.sIx vs.length vs.length hi = vs.length) : cutV vs lo hi = vs := by
  unfold cutV
  rw [h.1, h.2]; simp
def rSlD (c : Gh) : V → Option Int → Option Int → Hp → VK → Prop := fun x lo hi H Q => ∃ G L ra r, Rel c G H L ∧ View c G H ra x ∧ cutOf ra lo hi = .ok r ∧ ∀ G' v H', Sub G G' → Rel c G' H' ((r.1, v, r.2) :: L) → Q v H'
theorem sl_core (hK : c.K = X.K) : SlR X (rSlD c) := by
  intro pins s σ H x v vl vu lo hi sl Q I rx hs pl pu h
  obtain ⟨G, L, ra, r, rl, va, e, k⟩ := h
  unfold cutOf at e
  split at e
  · split at e
    · rename_i hl
      cases e
      have hx := str_of rl va
      subst hx
      exact L2.sl_str pins s σ H _ v vl vu lo hi sl Q I rx hs pl pu ⟨_, rfl, hl, k G _ H (Sub.refl G) (rl.put_sh (.str _))⟩
    · cases e
  · cases e
    cases sh_dq va with
    | tup a b =>
      rename_i ad vs
      have hq : SqT X.K H ad vs := by rw [← hK]; exact SqT.sub rl.sub a
      refine sl_tupA pins s σ H _ v vl vu lo hi sl Q I rx hs pl pu ⟨_, _, rfl, hq, fun hw => ?_, fun hw => new_tup_end rl (b.cut lo hi) k⟩
      have b2 := b.cut lo hi
      rw [cutV_whole hw] at b2
      exact k G _ H (Sub.refl G) (rl.put_sh (.tup a b2))
  · split at e
    · obtain ⟨ds, e1, e⟩ := bind_ok e
      cases e
      obtain ⟨m, d⟩ := ra
      rename_i hd
      cases hd
      obtain ⟨a, vs, rfl, h1, h2⟩ := kids_list rl va e1
      exact sl_list pins s σ H _ v vl vu lo hi sl Q I rx hs pl pu ⟨a, vs, rfl, .inl (.inl h1), new_lst_end rl (h2.cut lo hi) k⟩
    · cases e
def fSl (o : FO) (l h : FPt) : FE := fun S => do
  let (t, S1) ← o S
  let (a, S2) ← l S1
  let (b, S3) ← h S2
  let r ← tkGet t S3
  let z ← cutOf r a b
  pure (z, S3)
theorem de_slice {e : Expr} {lo hi : Option Expr} {o : FO} {l h : FPt} {p2 pos : Pos} (hK : c.K = X.K) (he : PE X e (tO c o)) (hl : PO X lo (tPt c l)) (hh : PO X hi (tPt c h)) : PE X (.Subscript e (.Slice lo hi none p2) pos) (tE c (fSl o l h)) := by
  refine pemono (pe_slice (sl_core hK) he hl hh) fun σ H Q q => ?_
  obtain ⟨G, S, R, ok, r, S', e, k⟩ := q
  obtain ⟨⟨t, S1⟩, e1, e⟩ := bind_ok e
  obtain ⟨⟨a, S2⟩, e2, e⟩ := bind_ok e
  obtain ⟨⟨b, S3⟩, e3, e⟩ := bind_ok e
  obtain ⟨r0, e4, e⟩ := bind_ok e
  obtain ⟨z, e5, e⟩ := bind_ok e
  cases e
  refine ⟨G, S, R, ok, t, S1, e1, fun G1 v H1 s1 h1 ok1 => ⟨G1, S1, _, ok1, a, S2, e2, fun G2 H2 s2 ok2 => ⟨G2, S2, _, ok2, b, _, e3, fun G3 H3 s3 ok3 => ?_⟩⟩⟩
  refine ⟨G3, _, r0, r, ok3.rel, tk_view (R := R) ok3 (fun x hx => List.mem_append_left _ hx) h1 e4, e5, fun G' w H' s rl => ?_⟩
  exact k G' w H' (((s1.trans s2).trans s3).trans s) ⟨ok3.cov, rl.sublist (List.Sublist.cons_cons _ (List.Sublist.append_right (List.sublist_append_right _ _) _))⟩
/-! ### x[::-1] -/
def revOf (r : MV) : M MV := match r with
  | (.sh, .tuple ds) => .ok (.sh, .tuple ds.reverse)
  | r => match r.2 with
    | .list _ => do
      let ds ← kids r
      pure (.ow .sh, .list ds.reverse)
    | _ => stk
def tRevT (K : PySem.W.Frag) (te : TE) : TE := fun σ H Q => te σ H fun x H1 => ∃ a xs, x = .ref a ∧ SqT K H1 a xs ∧ ∀ p, H1 p = none → Q (.ref p) (upd H1 p (.tup xs.reverse))
theorem pe_revT {e : Expr} {te : TE} {k : Nat} {p1 p2 p3 pos : Pos} (he : PE X e te) : PE X (.Subscript e (.Slice none none (some (.UnaryOp .USub (.Constant (.int 1) k p1) p2)) p3) pos) (tRevT X.K te) := by
  refine ⟨fun pins s σ H Q I h => ?_⟩
  refine Subscript_ (thn (he.run pins s σ H _ I h) fun v s1 ⟨x, H1, I1, r1, q1⟩ => ?_)
  obtain ⟨a, xs, ex, hx, q⟩ := q1
  subst ex
  cases r1
  have hst : PO X (some (.UnaryOp .USub (.Constant (.int 1) k p1) p2)) (tPart (tUn (rU fun i => .int (-i)) (tC (.int 1)))) := po_some (pe_un un_neg pe_int)
  refine wpAny_Slice (thn (po_none.run pins s1 σ H1 (fun o H2 => o = none ∧ H2 = H1) I1 ⟨rfl, rfl⟩) fun vl s2 ⟨l, H2, I2, pl, el, e2⟩ => ?_)
  subst el e2
  refine thn (po_none.run pins s2 σ H2 (fun o H3 => o = none ∧ H3 = H2) I2 ⟨rfl, rfl⟩) fun vu s3 ⟨u, H3, I3, pu, eu, e3⟩ => ?_
  subst eu e3
  refine thn (hst.run pins s3 σ H3 (fun o H4 => o = some (-1) ∧ H4 = H3) I3 ⟨1, rfl, -1, rfl, rfl, rfl⟩) fun vs s4 ⟨o, H4, I4, ps, eo, e4⟩ => ?_
  subst eo e4
  have I5 : Inv X pins σ H4 { s4 with heap := s4.heap.push { cls := .type "slice", data := .fields #[vl, vu, vs] } } := I4.kept (t' := s4.toks) fun b ob q => Heap.get?_push_of_some _ q
  obtain ⟨its, r, ht, hz⟩ := I5.tuple hx
  have hlen := r.length
  show wpAny (model X.prog X.w) X.A (subscriptTail e (.Slice none none (some (.UnaryOp .USub (.Constant (.int 1) k p1) p2)) p3) (.ref a) (.ref s4.heap.objs.size)) (EP X pins σ Q) X.xe { s4 with heap := s4.heap.push { cls := .type "slice", data := .fields #[vl, vu, vs] } }
  cases ps with
  | int i t =>
    refine tail_any (ops := [.ref a, .ref s4.heap.objs.size]) ht.typeIs (PyProof.Rows.slot_tuple_getitem.lookup) ?_ (by with_unfolding_all rfl)
    refine HT.getItem_tuple_rev ht (Heap.IsSliceOf.new _ vl vu (.int (-1) t)) pl pu ?_ (by rw [List.size_toArray]; omega)
    refine ⟨.ref _, _, I5.laid (t' := s4.toks) (o := .tup xs.reverse) (fun b ob q => Heap.get?_push_of_some _ q) (Nat.le_refl _) ?_, rfl, q _ (I5.hok.fresh (Nat.le_refl _))⟩
    exact ⟨by rw [List.length_reverse]; exact hz, _, r.reverse, IsTup.new _ _⟩
def fRev (o : FO) : FE := fun S => do
  let (t, S1) ← o S
  let r ← tkGet t S1
  let z ← revOf r
  pure (z, S1)
theorem de_rev {e : Expr} {o : FO} {k : Nat} {p1 p2 p3 pos : Pos} (hK : c.K = X.K) (he : PE X e (tO c o)) : PE X (.Subscript e (.Slice none none (some (.UnaryOp .USub (.Constant (.int 1) k p1) p2)) p3) pos) (tE c (fRev o)) := by
  refine ⟨fun pins s σ H Q I q => ?_⟩
  obtain ⟨G, S, R, ok, r, S', e, k⟩ := q
  obtain ⟨⟨t, S1⟩, e1, e⟩ := bind_ok e
  obtain ⟨r0, e4, e⟩ := bind_ok e
  obtain ⟨z, e5, e⟩ := bind_ok e
  cases e
  have base : ∀ (P : V → Hp → Prop), (∀ G' v H' L, Sub G G' → Rel c G' H' L → View c G' H' r0 v → (∀ G2 w H2, Sub G' G2 → Rel c G2 H2 ((r.1, w, r.2) :: L) → Q w H2) → P v H') → tO c o σ H P := fun P hP => by
    refine ⟨G, S, R, ok, t, _, e1, fun G1 v H1 s1 h1 ok1 => ?_⟩
    refine hP G1 v H1 _ s1 ok1.rel (tk_view (R := R) ok1 (fun x hx => List.mem_append_left _ hx) h1 e4) fun G2 w H2 s2 rl => ?_
    exact k G2 w H2 (s1.trans s2) ⟨ok1.cov, rl.sublist (List.Sublist.cons_cons _ (List.Sublist.append_right (List.sublist_append_right _ _) _))⟩
  unfold revOf at e5
  split at e5
  · cases e5
    refine (pe_revT he).run pins s σ H Q I (base _ fun G' v H' L s' rl va k => ?_)
    cases sh_dq va with
    | tup a b =>
      rename_i ad vs
      exact ⟨_, _, rfl, by rw [← hK]; exact SqT.sub rl.sub a, new_tup_end rl b.rev k⟩
  · split at e5
    · obtain ⟨ds, e6, e5⟩ := bind_ok e5
      cases e5
      refine (pe_revL he).run pins s σ H Q I (base _ fun G' v H' L s' rl va k => ?_)
      obtain ⟨m, d⟩ := r0
      rename_i hd
      cases hd
      obtain ⟨a, vs, rfl, h1, h2⟩ := kids_list rl va e6
      exact ⟨a, vs, rfl, .inl (.inl h1), new_lst_end rl h2.rev k⟩
    · cases e5
end
end O
set_option maxRecDepth 100000
set_option maxHeartbeats 1000000
namespace O
open PySem PySem.Spec PyProof.Rows L2
section
variable {X : Cx} {c : Gh} {P : List Nat}
/-! ### an owned list in a slot is written -/
theorem SOk.put' {G G' H H' : Hp} {σ : L2.St} {S : SS} {R L : List T3} {i : Nat} {m m' : Md} {d d' : D} {v : V} (ok : SOk c G H σ S R) (e : S[i]? = some (some (m, d))) (hv : σ[i]? = some (some v)) (rl : Rel c G' H' ((m', v, d') :: L)) (hL : (R ++ prs σ (S.set i none)).Sublist L) : SOk c G' H' σ (S.set i (some (m', d'))) R :=
  SOk.put ok.cov hv (lt_of_get e) (rl.sublist (List.Sublist.cons_cons _ hL))
abbrev SemM := List D → List MV → M (List D × MV)
def lstAt (S : SS) (i : Nat) : M (List D) := match S[i]? with
  | some (some (.ow .sh, .list ds)) => .ok ds
  | _ => stk
theorem lstAt_ok {S : SS} {i : Nat} {ds : List D} (h : lstAt S i = .ok ds) : S[i]? = some (some (.ow .sh, .list ds)) := by
  unfold lstAt at h
  split at h
  · rename_i e; cases h; exact e
  · cases h
def rMt (c : Gh) (sem : SemM) : V → List V → Hp → VK → Prop := fun x vs H Q => ∃ G L rs ds ds' r, Rel c G H ((.ow .sh, x, .list ds) :: L) ∧ Views c G H rs vs ∧ sem ds rs = .ok (ds', r) ∧
  ∀ G' v H', Sub G G' → Rel c G' H' ((r.1, v, r.2) :: (.ow .sh, x, .list ds') :: L) → Q v H'
def fMt (i : Nat) (sem : SemM) (f : FA) : FE := fun S => do
  let _ ← lstAt S i
  let (ts, S1) ← f S
  let ds ← lstAt S1 i
  let rs ← tkGets ts S1
  let (ds', r) ← sem ds rs
  pure (r, S1.set i (some (.ow .sh, .list ds')))
theorem mt_read {i : Nat} {sem : SemM} {f : FA} {σ : L2.St} {H : Hp} {Q : VK} (hK : c.K = X.K) (h : tE c (fMt i sem f) σ H Q) : tBM X.K "list" (rMt c sem) (tO c (oP i)) (tA c f) σ H Q := by
  obtain ⟨G, S, R, ok, r, S', e, k⟩ := h
  obtain ⟨d0, e0, e⟩ := bind_ok e
  obtain ⟨⟨ts, S1⟩, e1, e⟩ := bind_ok e
  obtain ⟨ds, e2, e⟩ := bind_ok e
  obtain ⟨rs, e3, e⟩ := bind_ok e
  obtain ⟨⟨ds', r'⟩, e4, e⟩ := bind_ok e
  cases e
  have z0 := lstAt_ok e0
  refine ⟨G, S, R, ok, .slot i, S, by unfold oP; rw [z0], fun G1 v H1 s1 h1 ok1 => ⟨?_, ?_⟩⟩
  · obtain ⟨w, hw, rl⟩ := ok1.slot z0
    have h1 : σ[i]? = some (some v) := h1
    rw [hw] at h1; cases h1
    obtain ⟨a, vs, ds1, rfl, _, h3, _⟩ := rl.ow_of
    exact .inl ⟨rfl, vs, .inl (.inl h3)⟩
  · refine ⟨G1, S, R, ok1, ts, S1, e1, fun G2 vs H2 s2 h2 ok2 => ?_⟩
    have z2 := lstAt_ok e2
    obtain ⟨w, hw, rl⟩ := ok2.slot z2
    have h1 : σ[i]? = some (some v) := h1
    rw [hw] at h1; cases h1
    refine ⟨G2, _, rs, ds, ds', r, rl, tks_views ok2 (fun x hx => List.mem_append_left _ hx) h2 e3, e4, fun G' u H' s rl' => ?_⟩
    refine k G' u H' ((s1.trans s2).trans s) ?_
    have rl2 := rl'.perm (List.Perm.swap _ _ _)
    refine SOk.put ok2.cov hw (lt_of_get z2) (rl2.sublist (List.Sublist.cons_cons _ ?_))
    exact List.Sublist.cons_cons _ (List.Sublist.append_right (List.sublist_append_right _ _) _)
theorem mt_read0 {i : Nat} {sem : SemM} {σ : L2.St} {H : Hp} {Q : VK} (hK : c.K = X.K) (h : tE c (fMt i sem aNil) σ H Q) : tBM0 X.K "list" (rMt c sem) (tO c (oP i)) σ H Q := by
  obtain ⟨G, S, R, ok, t, S', e, k⟩ := mt_read (X := X) hK h
  refine ⟨G, S, R, ok, t, S', e, fun G1 v H1 s1 h1 ok1 => ?_⟩
  obtain ⟨h2, G2, S2, R2, ok2, ts, S3, e2, k2⟩ := k G1 v H1 s1 h1 ok1
  cases e2
  exact ⟨h2, k2 G2 [] H1 (Sub.refl _) .nil ok2⟩
theorem de_mt {name : Str} {id : String} {sem : SemM} {i : Nat} {x : Str} {e : Expr} {es : List Expr} {f : FA} {p apos cpos : Pos} (hK : c.K = X.K) (slot : Slot "list" name id) (hty : typeOf (.builtin id) = pure (.type "method_descriptor")) (hm : MtR X id (rMt c sem))
    (ha : PA X (e :: es) (tA c f)) (hN : X.N[i]? = some x := by rfl) (hv : Vis X.env.scope x := by first | exact Or.inl rfl | exact Or.inr (Or.inl rfl) | exact Or.inr (Or.inr rfl)) (hd : (x == ("__debug__" : Str)) = false := by decide) (hcd : (x == ("__classdict__" : Str)) = false := by decide)
    (hbase : attributeBase (.Name x p) name X.env (eval (.Name x p) X.env) = eval (.Name x p) X.env := by rfl)
    (hfew : ((backTo cpos (starEach (e :: es) X.env)).all (fun x => !x.1) && (backToKw cpos (keywordEach [] X.env)).all (fun x => x.1.isSome)
      && decide ((e :: es).length + ([] : List Keyword).length + (if ([] : List Keyword).isEmpty then 0 else 1) < 30)) = true := by rfl)
    (hline : (apos.endLine == cpos.line) = true := by rfl) (hs : starEach (e :: es) X.env = (false, eval e X.env) :: starEach es X.env := by rfl) (hplain : (backTo cpos (starEach es X.env)).any (·.1) = false := by rfl) :
    PE X (.Call (.Attribute (.Name x p) name apos) (e :: es) [] cpos) (tE c (fMt i sem f)) :=
  pemono (pe_bm PySem.F.plainAttrs_list slot hty hm (do_pk hN hv hd hcd) ha hbase hfew hline hs hplain) fun _ _ _ h => mt_read hK h
theorem de_mt0 {name : Str} {id : String} {sem : SemM} {i : Nat} {x : Str} {p apos cpos : Pos} (hK : c.K = X.K) (slot : Slot "list" name id) (hty : typeOf (.builtin id) = pure (.type "method_descriptor")) (hm : MtR X id (rMt c sem))
    (hN : X.N[i]? = some x := by rfl) (hv : Vis X.env.scope x := by first | exact Or.inl rfl | exact Or.inr (Or.inl rfl) | exact Or.inr (Or.inr rfl)) (hd : (x == ("__debug__" : Str)) = false := by decide) (hcd : (x == ("__classdict__" : Str)) = false := by decide)
    (hbase : attributeBase (.Name x p) name X.env (eval (.Name x p) X.env) = eval (.Name x p) X.env := by rfl) (hline : (apos.endLine == cpos.line) = true := by rfl) :
    PE X (.Call (.Attribute (.Name x p) name apos) [] [] cpos) (tE c (fMt i sem aNil)) :=
  pemono (pe_bm0 PySem.F.plainAttrs_list slot hty hm (do_pk hN hv hd hcd) hbase hline) fun _ _ _ h => mt_read0 hK h
def semAppend : SemM := fun ds rs => match rs with
  | [(.sh, d)] => if ds.length < sizeLine then .ok (ds ++ [d], (.sh, .none)) else stk
  | _ => stk
theorem Rel.hold {G H : Hp} {m : Md} {v : V} {d e : D} {L : List T3} (rl : Rel c G H ((m, v, d) :: L)) : Rel c G H ((.sh, .non, .none) :: (m, v, d) :: L) := rl.put_sh .non
theorem m_append : MtR X "list.append" (rMt c semAppend) := by
  intro pins s σ H x vs v us Q I rx rv h
  obtain ⟨G, L, rs, ds, ds', r, rl, hv, e, k⟩ := h
  unfold semAppend at e
  split at e
  · split at e
    · rename_i hl
      cases e
      obtain ⟨w, rfl, hw⟩ := views1 hv
      obtain ⟨a, vs, ds1, rfl, hd, h3, h4⟩ := rl.ow_of
      cases hd
      exact mt_append pins s σ H _ _ v us Q I rx rv ⟨a, vs, w, rfl, rfl, h3, by rw [h4.length]; exact hl, k G _ _ (Sub.refl G) ((rl.write (h4.app (.cons (sh_dq hw) .nil))).put_sh .non)⟩
    · cases e
  · cases e
def semExtend : SemM := fun ds rs => match rs with
  | [r] => do
    let es ← kidsL r
    if ds.length + es.length ≤ sizeLine then pure (ds ++ es, (.sh, .none)) else stk
  | _ => stk
theorem m_extend : MtR X "list.extend" (rMt c semExtend) := by
  intro pins s σ H x vs v us Q I rx rv h
  obtain ⟨G, L, rs, ds, ds', r, rl, hv, e, k⟩ := h
  unfold semExtend at e
  split at e
  · obtain ⟨es, e1, e⟩ := bind_ok e
    split at e
    · rename_i hl
      cases e
      obtain ⟨w, rfl, hw⟩ := views1 hv
      obtain ⟨b, us', rfl, h1, h2⟩ := kidsL_ok rl hw e1
      obtain ⟨a, vs, ds1, rfl, hd, h3, h4⟩ := rl.ow_of
      cases hd
      exact mt_extend pins s σ H _ _ v us Q I rx rv ⟨a, b, vs, us', rfl, rfl, h3, h1, by rw [h4.length, h2.length]; exact hl, k G _ _ (Sub.refl G) ((rl.write (h4.app h2)).put_sh .non)⟩
    · cases e
  · cases e
def semPop : SemM := fun ds rs => match rs with
  | [] => match ds.getLast? with
    | some d => .ok (ds.dropLast, (.sh, d))
    | none => stk
  | [r] => match r.2 with
    | .int i => if small62 i then match ixN ds.length i with
      | some k => match ds[k]? with
        | some d => .ok (ds.eraseIdx k, (.sh, d))
        | none => stk
      | none => stk else stk
    | _ => stk
  | _ => stk
theorem DqAll.dropLast {K : PySem.W.Frag} {G : Hp} {vs : List V} {ds : List D} (h : DqAll K G vs ds) : DqAll K G vs.dropLast ds.dropLast := by
  rw [List.dropLast_eq_take, List.dropLast_eq_take, h.length]
  exact h.take _
theorem DqAll.erase {K : PySem.W.Frag} {G : Hp} : ∀ {vs : List V} {ds : List D} (i : Nat), DqAll K G vs ds → DqAll K G (vs.eraseIdx i) (ds.eraseIdx i)
  | _, _, _, .nil => .nil
  | _, _, 0, .cons _ t => t
  | _, _, i + 1, .cons h t => .cons h (DqAll.erase i t)
theorem m_pop : MtR X "list.pop" (rMt c semPop) := by
  intro pins s σ H x vs v us Q I rx rv h
  obtain ⟨G, L, rs, ds, ds', r, rl, hv, e, k⟩ := h
  obtain ⟨a, xs, ds1, rfl, hd, h3, h4⟩ := rl.ow_of
  cases hd
  unfold semPop at e
  split at e
  · split at e
    · rename_i d hl
      cases e
      cases hv
      rw [List.getLast?_eq_getElem?] at hl
      rw [← h4.length] at hl
      obtain ⟨w, h5, h6⟩ := h4.get hl
      exact mt_pop pins s σ H _ _ v us Q I rx rv ⟨a, xs, w, rfl, rfl, h3, h5, k G _ _ (Sub.refl G) ((rl.write h4.dropLast).put_sh h6)⟩
    · cases e
  · obtain ⟨w, rfl, hw⟩ := views1 hv
    rename_i r0
    obtain ⟨m, d⟩ := r0
    simp only at e
    split at e
    · split at e
      · rename_i hs
        split at e
        · rename_i j hj
          split at e
          · rename_i d hd
            cases e
            have hw := int_of rl hw
            subst hw
            obtain ⟨w, h5, h6⟩ := h4.get hd
            have hsm := small62_ok hs
            rw [← h4.length] at hj
            exact mt_popAt pins s σ H _ _ v us Q I rx rv ⟨a, xs, _, j, w, rfl, rfl, h3, by omega, by omega, (ixN_seq hj).1, h5, k G _ _ (Sub.refl G) ((rl.write (h4.erase j)).put_sh h6)⟩
          · cases e
        · cases e
      · cases e
    · cases e
  · cases e
def semReverse : SemM := fun ds rs => match rs with
  | [] => .ok (ds.reverse, (.sh, .none))
  | _ => stk
theorem m_reverse : MtR X "list.reverse" (rMt c semReverse) := by
  intro pins s σ H x vs v us Q I rx rv h
  obtain ⟨G, L, rs, ds, ds', r, rl, hv, e, k⟩ := h
  obtain ⟨a, xs, ds1, rfl, hd, h3, h4⟩ := rl.ow_of
  cases hd
  unfold semReverse at e
  split at e
  · cases e
    cases hv
    exact mt_reverse pins s σ H _ _ v us Q I rx rv ⟨a, xs, rfl, rfl, h3, k G _ _ (Sub.refl G) ((rl.write h4.rev).put_sh .non)⟩
  · cases e
/-- remove: of a list of ints -/
def semRemove : SemM := fun ds rs => match rs with
  | [r] => match r.2 with
    | .int k => do
      let ns ← intsOf ds
      if k ∈ ns then pure (ds.eraseIdx (ns.idxOf k), (.sh, .none)) else stk
    | _ => stk
  | _ => stk
theorem idxOf_at {k : Int} : ∀ {ns : List Int}, k ∈ ns → ns[ns.idxOf k]? = some k
  | [], h => by simp at h
  | a :: ns, h => by
    by_cases q : a = k
    · subst q; simp
    · have hh : k ∈ ns := by simpa [Ne.symm q] using h
      have e : (a :: ns).idxOf k = ns.idxOf k + 1 := by
        rw [List.idxOf_cons]
        rw [show (a == k) = false from beq_eq_false_iff_ne.mpr q]; rfl
      rw [e, List.getElem?_cons_succ]
      exact idxOf_at hh
theorem idxOf_first {ns : List Int} {k : Int} : ∀ m, m < ns.idxOf k → ns[m]? ≠ some k := fun m hm e => by
  have h1 := List.getElem?_eq_some_iff.mp e
  obtain ⟨w, h1⟩ := h1
  have := List.not_of_lt_findIdx (p := (· == k)) (xs := ns) (i := m) (by simpa [List.idxOf] using hm)
  simp [h1] at this
theorem erase_map {α β : Type} (f : α → β) : ∀ (l : List α) (i : Nat), (l.eraseIdx i).map f = (l.map f).eraseIdx i
  | [], _ => rfl
  | _ :: _, 0 => rfl
  | a :: l, i + 1 => by simp [erase_map f l i]
theorem m_remove : MtR X "list.remove" (rMt c semRemove) := by
  intro pins s σ H x vs v us Q I rx rv h
  obtain ⟨G, L, rs, ds, ds', r, rl, hv, e, k⟩ := h
  obtain ⟨a, xs, ds1, rfl, hd, h3, h4⟩ := rl.ow_of
  cases hd
  unfold semRemove at e
  split at e
  · obtain ⟨w, rfl, hw⟩ := views1 hv
    rename_i r0
    obtain ⟨m, d⟩ := r0
    simp only at e
    split at e
    · obtain ⟨ns, e1, e⟩ := bind_ok e
      split at e
      · rename_i hin
        cases e
        have hw := int_of rl hw
        subst hw
        have hx := ints_vals h4 e1
        subst hx
        refine mt_remove pins s σ H _ _ v us Q I rx rv ⟨a, ns, _, ns.idxOf _, rfl, rfl, h3, ?_, idxOf_first, ?_⟩
        · exact idxOf_at hin
        · rw [erase_map]
          exact k G _ _ (Sub.refl G) ((rl.write (h4.erase _)).put_sh .non)
      · cases e
    · cases e
  · cases e
/-! ### x[i] = .. -/
def gIxs (i : Nat) (oi : FO) : FG := fun r S => do
  let z ← giveR r
  let _ ← lstAt S i
  let (t, S1) ← oi S
  let ds ← lstAt S1 i
  let y ← tkGet t S1
  match y.2 with
  | .int k => match ixN ds.length k with
    | some j => pure (S1.set i (some (.ow .sh, .list (ds.set j z.2))))
    | none => stk
  | _ => stk
theorem dg_ix {i : Nat} {x : Str} {e : Expr} {oi : FO} {p pos : Pos} (hi : PE X e (tO c oi)) (hN : X.N[i]? = some x := by rfl) (hv : Vis X.env.scope x := by first | exact Or.inl rfl | exact Or.inr (Or.inl rfl) | exact Or.inr (Or.inr rfl)) (hd : (x == ("__debug__" : Str)) = false := by decide) (hcd : (x == ("__classdict__" : Str)) = false := by decide)
    (ha : ∀ v, assign (.Subscript (.Name x p) e pos) X.env v = (do
      let ov ← holding [v] (eval (.Name x p) X.env)
      let iv ← holding [v, ov] (eval e X.env)
      standAt pos
      holding [v, ov, iv] (setItem ov iv v)
      release [v, ov, iv] []) := by intro _; rfl) : PG X (.Subscript (.Name x p) e pos) (tGd c P (gIxs i oi)) := pgmono (pg_sub (do_pk (c := c) (i := i) hN hv hd hcd) hi set_list ha) fun v σ H Q h => by
  obtain ⟨G, S, R, r, ok, S', e, k⟩ := h
  obtain ⟨z, e0, e⟩ := bind_ok e
  obtain ⟨d0, e1, e⟩ := bind_ok e
  obtain ⟨⟨t, S1⟩, e2, e⟩ := bind_ok e
  obtain ⟨ds, e3, e⟩ := bind_ok e
  obtain ⟨y, e4, e⟩ := bind_ok e
  obtain ⟨hz, G0, s0, rl0⟩ := Rel.give ok.rel e0
  have ok0 : SOk c G0 H σ S ((.sh, v, r.2) :: R) := ⟨ok.cov, rl0⟩
  have z1 := lstAt_ok e1
  refine ⟨G0, S, _, ok0, .slot i, S, by unfold oP; rw [z1], fun G1 o H1 s1 h1 ok1 => ?_⟩
  refine ⟨G1, S, _, ok1, t, S1, e2, fun G2 w H2 s2 h2 ok2 => ?_⟩
  have z3 := lstAt_ok e3
  have hy := tk_view (R := tkR t w) ok2 (fun x hx => List.mem_append_left _ hx) h2 e4
  obtain ⟨m, d⟩ := y
  simp only at e
  split at e
  · split at e
    · rename_i kk _ j hj
      cases e
      have hw := int_of ok2.rel hy
      subst hw
      obtain ⟨ow, hw, rl⟩ := ok2.slot z3
      have h1 : σ[i]? = some (some o) := h1
      rw [hw] at h1; cases h1
      obtain ⟨a, xs, ds1, rfl, hd, h3, h4⟩ := rl.ow_of
      cases hd
      have hsh : Dq c.K G2 v z.2 := by
        have := ok2.rel.view (m := .sh) (v := v) (d := r.2) (by simp [tkR])
        rw [hz]
        exact sh_dq this
      refine ⟨a, xs, kk, j, rfl, rfl, h3, by rw [h4.length]; exact hj, ?_⟩
      have rl2 := rl.write (h4.set hsh j)
      refine k G2 σ _ ((s0.trans s1).trans s2) (Prot.refl σ) (SOk.put ok2.cov hw (lt_of_get z3) (rl2.sublist (List.Sublist.cons_cons _ (List.Sublist.append_right ?_ _))))
      exact ((List.sublist_cons_self _ _).trans (List.sublist_append_right _ _)).trans (List.sublist_append_right _ _)
    · cases e
  · cases e
theorem get_list {K : PySem.W.Frag} (hK : K = X.K) : PGet X (rIxL K) := by
  intro pins s σ H x y v u Q I rx ry h
  obtain ⟨p, xs, i, z, rfl, rfl, hq, he, q⟩ := h
  rw [hK] at hq
  cases rx
  obtain ⟨t, rfl⟩ := ry
  obtain ⟨its, r, pl, hz⟩ := I.list hq
  obtain ⟨j, h1, h2, h3, h4, h5⟩ := atI_get he
  obtain ⟨w, ew, rw'⟩ := r.get h2
  have hl := r.length
  have hn := line63
  have fin : EP X pins σ Q w s := ⟨z, H, I, rw', q⟩
  by_cases h0 : 0 ≤ i
  · have hj : i.toNat = j := by
      rw [seqIndex_of h0 h5] at h1
      exact Option.some.inj h1
    exact wpAny_getItem_list pl.isList h0 (by omega) (by rw [hj]; simpa using ew) fin
  · have hj : (i + (its.toArray.size : Int)).toNat = j := by
      rw [seqIndex_neg (by omega) h4] at h1
      rw [List.size_toArray, ← hl]
      exact Option.some.inj h1
    exact wpAny_getItem_list_neg pl.isList (by omega) (by rw [List.size_toArray] <;> omega) (by omega) (by rw [hj]; simpa using ew) fin
def sAugS (i : Nat) (oi : FO) (sem : Sem2) (oe : FO) : FS := fun S => do
  let _ ← lstAt S i
  let (t1, S1) ← oi S
  let ds1 ← lstAt S1 i
  let y ← tkGet t1 S1
  match y.2 with
  | .int k => match atI ds1 k with
    | some d => do
      let (t2, S2) ← oe S1
      let e ← tkGet t2 S2
      let r ← sem (.sh, d) e
      let z ← giveR r
      let ds2 ← lstAt S2 i
      match ixN ds2.length k with
      | some j => pure (.nx, S2.set i (some (.ow .sh, .list (ds2.set j z.2))))
      | none => stk
    | none => stk
  | _ => stk
theorem ds_augS {i : Nat} {x : Str} {ei e : Expr} {oi oe : FO} {sem : Sem2} {op : Operator} {p tpos pos : Pos} (hK : c.K = X.K) (hi : PE X ei (tO c oi)) (he : PE X e (tO c oe)) (hop : OpR X (inplaceOp op) (r2D c sem)) (hN : X.N[i]? = some x := by rfl) (hv : Vis X.env.scope x := by first | exact Or.inl rfl | exact Or.inr (Or.inl rfl) | exact Or.inr (Or.inr rfl)) (hd : (x == ("__debug__" : Str)) = false := by decide) (hcd : (x == ("__classdict__" : Str)) = false := by decide)
    (ha : ∀ ov iv new, augStore ei ov iv new = (do holding [new, ov, iv] (setItem ov iv new); release [new, ov, iv] []; pure .next) := by intros; rfl) : PS X (.AugAssign (.Subscript (.Name x p) ei tpos) op e pos) (tS c P (sAugS i oi sem oe)) := psmono (ps_augS (do_pk (c := c) (i := i) hN hv hd hcd) hi (get_list hK) he (tip := fun x y H Q => r2D c sem x y H Q) (fun pins s σ H x y v u Q I rx ry h => hop pins s σ H x y v u Q I rx ry h) set_list ha) fun Dn σ H h => by
  obtain ⟨G, S, R, ok, fl, S', e, k⟩ := h
  obtain ⟨d0, e0, e⟩ := bind_ok e
  obtain ⟨⟨t1, S1⟩, e1, e⟩ := bind_ok e
  obtain ⟨ds1, e2, e⟩ := bind_ok e
  obtain ⟨y, e3, e⟩ := bind_ok e
  have z0 := lstAt_ok e0
  refine ⟨G, S, _, ok, .slot i, S, by unfold oP; rw [z0], fun G1 o H1 s1 h1 ok1 => ?_⟩
  refine ⟨G1, S, _, ok1, t1, S1, e1, fun G2 w H2 s2 h2 ok2 => ?_⟩
  have hy := tk_view (R := tkR t1 w) ok2 (fun x hx => List.mem_append_left _ hx) h2 e3
  obtain ⟨m, d⟩ := y
  simp only at e
  split at e
  · split at e
    · rename_i kk _ d hat
      obtain ⟨⟨t2, S2⟩, e4, e⟩ := bind_ok e
      obtain ⟨ev, e5, e⟩ := bind_ok e
      obtain ⟨r, e6, e⟩ := bind_ok e
      obtain ⟨z, e7, e⟩ := bind_ok e
      obtain ⟨ds2, e8, e⟩ := bind_ok e
      have hw := int_of ok2.rel hy
      subst hw
      have z2 := lstAt_ok e2
      obtain ⟨ow, hw, rl⟩ := ok2.slot z2
      have h1 : σ[i]? = some (some o) := h1
      rw [hw] at h1; cases h1
      obtain ⟨a, xs, dsx, rfl, hd, h3, h4⟩ := rl.ow_of
      cases hd
      obtain ⟨u, h5, h6⟩ := atI_dq h4 hat
      refine ⟨a, xs, kk, u, rfl, rfl, .inl (.inl h3), h5, ?_⟩
      have ok3 : SOk c G2 H2 σ S1 ((.sh, u, d) :: (tkR t1 (.int kk) ++ (tkR (.slot i) (.ref a) ++ R))) := ⟨ok2.cov, ok2.rel.put_sh h6⟩
      refine ⟨G2, S1, _, ok3, t2, S2, e4, fun G3 q H3 s3 h7 ok4 => ?_⟩
      have vq := tk_view (R := tkR t2 q) ok4 (fun x hx => List.mem_append_left _ hx) h7 e5
      have vu : View c G3 H3 (.sh, d) u := ok4.rel.view (by simp)
      refine ⟨G3, _, _, ev, r, ok4.rel, vu, vq, e6, fun G4 nv H4 s4 rl4 => ?_⟩
      obtain ⟨hz, G5, s5, rl5⟩ := Rel.give rl4 e7
      have z8 := lstAt_ok e8
      have ok5 : SOk c G5 H4 σ S2 ((.sh, nv, r.2) :: (tkR t2 q ++ ((.sh, u, d) :: (tkR t1 (.int kk) ++ (tkR (.slot i) (.ref a) ++ R))))) := ⟨ok4.cov, rl5⟩
      obtain ⟨ow, hw', rl6⟩ := ok5.slot z8
      rw [hw] at hw'; cases hw'
      obtain ⟨a', xs', dsx, ea, hd, h3', h4'⟩ := rl6.ow_of
      cases ea; cases hd
      split at e
      · rename_i j hj
        cases e
        have hsh : Dq c.K G5 nv z.2 := by rw [hz]; exact rl5.sh_of
        refine ⟨a, xs', kk, j, rfl, rfl, h3', by rw [h4'.length]; exact hj, ?_⟩
        have rl7 := rl6.write (h4'.set hsh j)
        refine k G5 σ _ ((((s1.trans s2).trans s3).trans s4).trans s5) (Prot.refl σ) (SOk.put ok5.cov hw (lt_of_get z8) (rl7.sublist (List.Sublist.cons_cons _ (List.Sublist.append_right ?_ _))))
        refine (List.Sublist.trans ?_ (List.sublist_cons_self _ _))
        refine (List.Sublist.trans ?_ (List.sublist_append_right _ _))
        refine (List.Sublist.trans ?_ (List.sublist_cons_self _ _))
        refine (List.Sublist.trans ?_ (List.sublist_append_right _ _))
        exact List.sublist_append_right _ _
      · cases e
    · cases e
  · cases e
/-! ### methods that only read -/
def kindOk (T : String) : D → Bool
  | .str _ => T == "str"
  | .int _ => T == "int"
  | .list _ => T == "list"
  | _ => false
theorem kind_ty {T : String} {G H : Hp} {L : List T3} {r : MV} {v : V} (rl : Rel c G H L) (h : View c G H r v) (hk : kindOk T r.2 = true) (hK : c.K = X.K) : tyV X.K T v H := by
  obtain ⟨m, d⟩ := r
  have hd := h.dp rl
  cases d with
  | str x => cases hd; exact eq_of_beq hk
  | int i => cases hd; exact eq_of_beq hk
  | list ds =>
    cases hd with
    | lst a b => exact .inl ⟨eq_of_beq hk, _, by rw [← hK]; exact a⟩
  | _ => cases hk
def fMv (T : String) (sem : SemN) (o : FO) (f : FA) : FE := fun S => do
  let (t, S1) ← o S
  let r0 ← tkGet t S1
  if kindOk T r0.2 then do
    let (ts, S2) ← f S1
    let r ← tkGet t S2
    let rs ← tkGets ts S2
    let z ← sem (r :: rs)
    pure (z, S2)
  else stk
def rMv (c : Gh) (sem : SemN) : V → List V → Hp → VK → Prop := fun x vs H Q => ∃ G L r0 rs r, Rel c G H L ∧ View c G H r0 x ∧ Views c G H rs vs ∧ sem (r0 :: rs) = .ok r ∧ ∀ G' v H', Sub G G' → Rel c G' H' ((r.1, v, r.2) :: L) → Q v H'
theorem mv_read {T : String} {sem : SemN} {o : FO} {f : FA} {σ : L2.St} {H : Hp} {Q : VK} (hK : c.K = X.K) (h : tE c (fMv T sem o f) σ H Q) : tBM X.K T (rMv c sem) (tO c o) (tA c f) σ H Q := by
  obtain ⟨G, S, R, ok, r, S', e, k⟩ := h
  obtain ⟨⟨t, S1⟩, e1, e⟩ := bind_ok e
  obtain ⟨r0, e2, e⟩ := bind_ok e
  split at e
  · rename_i hk
    obtain ⟨⟨ts, S2⟩, e3, e⟩ := bind_ok e
    obtain ⟨r1, e4, e⟩ := bind_ok e
    obtain ⟨rs, e5, e⟩ := bind_ok e
    obtain ⟨z, e6, e⟩ := bind_ok e
    cases e
    refine ⟨G, S, R, ok, t, S1, e1, fun G1 v H1 s1 h1 ok1 => ⟨?_, ?_⟩⟩
    · exact kind_ty ok1.rel (tk_view (R := R) ok1 (fun x hx => List.mem_append_left _ hx) h1 e2) hk hK
    · refine ⟨G1, S1, _, ok1, ts, _, e3, fun G2 vs H2 s2 h2 ok2 => ?_⟩
      refine ⟨G2, _, r1, rs, r, ok2.rel, tk_view (R := R) ok2 (fun x hx => List.mem_append_right _ (List.mem_append_left _ hx)) h1 e4, tks_views ok2 (fun x hx => List.mem_append_left _ hx) h2 e5, e6, fun G' w H' s rl => ?_⟩
      refine k G' w H' ((s1.trans s2).trans s) ⟨ok2.cov, rl.sublist (List.Sublist.cons_cons _ (List.Sublist.append_right ?_ _))⟩
      exact (List.sublist_append_right _ _).trans (List.sublist_append_right _ _)
  · cases e
theorem de_mv {T : String} {name : Str} {id : String} {sem : SemN} {oe e : Expr} {es : List Expr} {o : FO} {f : FA} {apos cpos : Pos} (hK : c.K = X.K) (pa : PlainAttrs T) (slot : Slot T name id) (hty : typeOf (.builtin id) = pure (.type "method_descriptor")) (hm : MtR X id (rMv c sem))
    (ho : PE X oe (tO c o)) (ha : PA X (e :: es) (tA c f))
    (hbase : attributeBase oe name X.env (eval oe X.env) = eval oe X.env := by rfl)
    (hfew : ((backTo cpos (starEach (e :: es) X.env)).all (fun x => !x.1) && (backToKw cpos (keywordEach [] X.env)).all (fun x => x.1.isSome)
      && decide ((e :: es).length + ([] : List Keyword).length + (if ([] : List Keyword).isEmpty then 0 else 1) < 30)) = true := by rfl)
    (hline : (apos.endLine == cpos.line) = true := by rfl) (hs : starEach (e :: es) X.env = (false, eval e X.env) :: starEach es X.env := by rfl) (hplain : (backTo cpos (starEach es X.env)).any (·.1) = false := by rfl) :
    PE X (.Call (.Attribute oe name apos) (e :: es) [] cpos) (tE c (fMv T sem o f)) :=
  pemono (pe_bm pa slot hty hm ho ha hbase hfew hline hs hplain) fun _ _ _ h => mv_read hK h
theorem de_mv0 {T : String} {name : Str} {id : String} {sem : SemN} {oe : Expr} {o : FO} {apos cpos : Pos} (hK : c.K = X.K) (pa : PlainAttrs T) (slot : Slot T name id) (hty : typeOf (.builtin id) = pure (.type "method_descriptor")) (hm : MtR X id (rMv c sem))
    (ho : PE X oe (tO c o)) (hbase : attributeBase oe name X.env (eval oe X.env) = eval oe X.env := by rfl) (hline : (apos.endLine == cpos.line) = true := by rfl) :
    PE X (.Call (.Attribute oe name apos) [] [] cpos) (tE c (fMv T sem o aNil)) :=
  pemono (pe_bm0 pa slot hty hm ho hbase hline) fun σ H Q h => by
    obtain ⟨G, S, R, ok, t, S', e, k⟩ := mv_read (X := X) hK h
    refine ⟨G, S, R, ok, t, S', e, fun G1 v H1 s1 h1 ok1 => ?_⟩
    obtain ⟨h2, G2, S2, R2, ok2, ts, S3, e2, k2⟩ := k G1 v H1 s1 h1 ok1
    cases e2
    exact ⟨h2, k2 G2 [] H1 (Sub.refl _) .nil ok2⟩
/-- l.index(x) -/
def semIndexL : SemN := fun rs => match rs with
  | [r, q] => match r.2 with
    | .list ds => if SeqAt.shaped (.list ds) && SeqAt.shaped q.2 then
        (if ds.any (fun z => PyData.eqv z q.2) then .ok (.sh, .int (ds.findIdx fun z => PyData.eqv z q.2 : Nat)) else stk) else stk
    | _ => stk
  | _ => stk
theorem m_indexL (hK : c.K = X.K) (hu : X.A.units + 65 < cLine) : MtR X "list.index" (rMv c semIndexL) := by
  intro pins s σ H x vs v us Q I rx rv h
  obtain ⟨G, L, r0, rs, r, rl, hx, hv, e, k⟩ := h
  obtain ⟨m, d⟩ := r0
  unfold semIndexL at e
  split at e
  · rename_i q hq
    cases hq
    simp only at e
    split at e
    · rename_i ds
      split at e
      · rename_i hc
        split at e
        · rename_i hany
          cases e
          rw [Bool.and_eq_true] at hc
          obtain ⟨y, rfl, hy⟩ := views1 hv
          have h1 := hx.dp rl
          have h2 := hy.dp rl
          rw [hK] at h1 h2
          have hlt : ds.findIdx (fun z => PyData.eqv z q.2) < ds.length := List.findIdx_lt_length_of_exists (by simpa using hany)
          cases h1 with
          | lst ha hb =>
            refine mt_indexD hu pins s σ H _ _ v us Q I rx rv ⟨_, y, q.2, ds, ds.findIdx (fun z => PyData.eqv z q.2), ds[ds.findIdx (fun z => PyData.eqv z q.2)], rfl, rfl, .lst ha hb, h2, hc.1, hc.2, List.getElem?_eq_getElem hlt, List.findIdx_getElem (w := hlt), fun j z hj hz => ?_, r2_end rl k rfl (.int _)⟩
            have := List.not_of_lt_findIdx hj
            rw [List.getElem?_eq_some_iff] at hz
            obtain ⟨w, hz⟩ := hz
            subst hz
            simpa using this
        · cases e
      · cases e
    · cases e
  · cases e
/-- l.count(x): ints -/
def semCountL : SemN := fun rs => match rs with
  | [r, q] => match q.2 with
    | .int i => do
      let ds ← kidsL r
      let ns ← intsOf ds
      pure (.sh, .int (ns.count i : Nat))
    | _ => stk
  | _ => stk
theorem m_countL : MtR X "list.count" (rMv c semCountL) := by
  intro pins s σ H x vs v us Q I rx rv h
  obtain ⟨G, L, r0, rs, r, rl, hx, hv, e, k⟩ := h
  unfold semCountL at e
  split at e
  · rename_i q hq
    cases hq
    obtain ⟨m, d⟩ := q
    simp only at e
    split at e
    · obtain ⟨ds, e1, e⟩ := bind_ok e
      obtain ⟨ns, e2, e⟩ := bind_ok e
      cases e
      obtain ⟨y, rfl, hy⟩ := views1 hv
      have hy := int_of rl hy
      subst hy
      obtain ⟨a, xs, rfl, h1, h2⟩ := kidsL_ok rl hx e1
      have := ints_vals h2 e2
      subst this
      exact mt_lcount pins s σ H _ _ v us Q I rx rv ⟨a, ns, _, rfl, rfl, .inl (.inl h1), r2_end rl k rfl (.int _)⟩
    · cases e
  · cases e
def semUpper : SemN := fun rs => match rs with
  | [r] => match r.2 with
    | .str x => if x.length ≤ 5592405 then .ok (.sh, .str (Txt.upper x)) else stk
    | _ => stk
  | _ => stk
theorem m_upper : MtR X "str.upper" (rMv c semUpper) := by
  intro pins s σ H x vs v us Q I rx rv h
  obtain ⟨G, L, r0, rs, r, rl, hx, hv, e, k⟩ := h
  obtain ⟨m, d⟩ := r0
  unfold semUpper at e
  split at e
  · rename_i hq
    cases hq
    simp only at e
    split at e
    · split at e
      · rename_i hl
        cases e
        cases hv
        exact mt_upper pins s σ H _ _ v us Q I rx rv ⟨_, str_of rl hx, rfl, hl, r2_end rl k rfl (.str _)⟩
      · cases e
    · cases e
  · cases e
def strsOf : List D → M (List Str)
  | [] => .ok []
  | .str b :: ds => do
    let bs ← strsOf ds
    pure (b :: bs)
  | _ => stk
theorem strs_vals {K : PySem.W.Frag} {G : Hp} : ∀ {ds : List D} {vs : List V} {bs : List Str}, DqAll K G vs ds → strsOf ds = .ok bs → vs = bs.map V.str := by
  intro ds
  induction ds with
  | nil => intro vs bs h e; cases h; cases e; rfl
  | cons d ds ih =>
    intro vs bs h e
    cases h with
    | cons h1 h2 =>
      cases d with
      | str b =>
        obtain ⟨bs', e1, e⟩ := bind_ok e
        cases e
        cases h1
        rw [ih h2 e1]; rfl
      | _ => cases e
def semJoin : SemN := fun rs => match rs with
  | [r, q] => match r.2 with
    | .str a => do
      let ds ← kidsL q
      let ys ← strsOf ds
      if (ys.map (·.length)).sum + ys.length * a.length ≤ 16777216 then pure (.sh, .str (Txt.join a ys)) else stk
    | _ => stk
  | _ => stk
theorem m_join : MtR X "str.join" (rMv c semJoin) := by
  intro pins s σ H x vs v us Q I rx rv h
  obtain ⟨G, L, r0, rs, r, rl, hx, hv, e, k⟩ := h
  obtain ⟨m, d⟩ := r0
  unfold semJoin at e
  split at e
  · rename_i q hq
    cases hq
    simp only at e
    split at e
    · obtain ⟨ds, e1, e⟩ := bind_ok e
      obtain ⟨ns, e2, e⟩ := bind_ok e
      split at e
      · rename_i hl
        cases e
        obtain ⟨y, rfl, hy⟩ := views1 hv
        obtain ⟨a, xs, rfl, h1, h2⟩ := kidsL_ok rl hy e1
        have := strs_vals h2 e2
        subst this
        exact mt_join pins s σ H _ _ v us Q I rx rv ⟨_, a, ns, str_of rl hx, rfl, .inl (.inl (.inl h1)), hl, r2_end rl k rfl (.str _)⟩
      · cases e
    · cases e
  · cases e
end
end O
set_option maxRecDepth 100000
set_option maxHeartbeats 1000000
namespace O
open PySem PySem.Spec PyProof.Rows L2

/-! ### slots set apart for a block -/
def msk (p : Nat → Bool) : Nat → SS → SS
  | _, [] => []
  | n, x :: S => (bif p n then x else none) :: msk p (n + 1) S
def mrg (p : Nat → Bool) : Nat → SS → SS → SS
  | n, x :: S, y :: T => (bif p n then x else y) :: mrg p (n + 1) S T
  | _, _, _ => []
theorem msk_len (p : Nat → Bool) : ∀ (n : Nat) (S : SS), (msk p n S).length = S.length
  | _, [] => rfl
  | n, _ :: S => by simp [msk, msk_len p (n + 1) S]
theorem mrg_len (p : Nat → Bool) : ∀ (n : Nat) (S T : SS), S.length = T.length → (mrg p n S T).length = T.length
  | _, [], [], _ => rfl
  | n, _ :: S, _ :: T, h => by simp [mrg, mrg_len p (n + 1) S T (by simpa using h)]
theorem msk_get (p : Nat → Bool) : ∀ (n i : Nat) (S : SS) (x : SV), (msk p n S)[i]? = some x → ∃ y, S[i]? = some y ∧ x = bif p (n + i) then y else none
  | _, _, [], _, h => by simp [msk] at h
  | n, 0, y :: S, x, h => by simp [msk] at h; exact ⟨y, rfl, by rw [← h]; rfl⟩
  | n, i + 1, y :: S, x, h => by
    simp [msk] at h
    obtain ⟨z, h1, h2⟩ := msk_get p (n + 1) i S x h
    exact ⟨z, by simpa using h1, by rw [h2, show n + (i + 1) = n + 1 + i from by omega]⟩
theorem mrg_get (p : Nat → Bool) : ∀ (n i : Nat) (S T : SS) (x : SV), (mrg p n S T)[i]? = some x → if p (n + i) = true then S[i]? = some x else T[i]? = some x
  | _, _, [], _, _, h => by simp [mrg] at h
  | _, _, _ :: _, [], _, h => by simp [mrg] at h
  | n, 0, y :: S, z :: T, x, h => by
    simp [mrg] at h
    simp only [Nat.add_zero, List.getElem?_cons_zero]
    cases hp : p n
    · rw [hp] at h; simp at h; simp [h]
    · rw [hp] at h; simp at h; simp [h]
  | n, i + 1, y :: S, z :: T, x, h => by
    simp [mrg] at h
    have := mrg_get p (n + 1) i S T x h
    rw [show n + (i + 1) = n + 1 + i by omega]
    simpa using this
theorem one_none (x : Option V) : one (x, none) = none := by cases x <;> rfl
theorem prs_msk (p : Nat → Bool) : ∀ (n : Nat) (σ : L2.St) (S : SS), (prs σ S).Perm (prs σ (msk p n S) ++ prs σ (msk (fun i => !p i) n S))
  | _, [], _ => by simp [prs]
  | _, _ :: _, [] => by simp [prs, msk]
  | n, v :: σ, x :: S => by
    have ih := prs_msk p (n + 1) σ S
    simp only [prs, msk, List.zip_cons_cons, List.filterMap_cons] at ih ⊢
    cases hp : p n
    · simp only [cond_false, cond_true, one_none, Bool.not_false]
      cases hx : one (v, x) with
      | none => exact ih
      | some t => exact (ih.cons t).trans List.perm_middle.symm
    · simp only [cond_true, cond_false, Bool.not_true, one_none]
      cases hx : one (v, x) with
      | none => exact ih
      | some t => exact ih.cons t
theorem msk_mrg (p : Nat → Bool) : ∀ (n : Nat) (S T : SS), S.length = T.length → msk p n (mrg p n S T) = msk p n S ∧ msk (fun i => !p i) n (mrg p n S T) = msk (fun i => !p i) n T
  | _, [], [], _ => ⟨rfl, rfl⟩
  | n, x :: S, y :: T, h => by
    obtain ⟨h1, h2⟩ := msk_mrg p (n + 1) S T (by simpa using h)
    simp only [mrg, msk, h1, h2]
    cases p n <;> simp
theorem msk_idem (p : Nat → Bool) : ∀ (n : Nat) (S : SS), msk p n (msk p n S) = msk p n S
  | _, [] => rfl
  | n, x :: S => by simp only [msk, msk_idem p (n + 1) S]; cases p n <;> simp
def inP (vs : List Nat) : Nat → Bool := fun i => vs.contains i
abbrev wipeS (vs : List Nat) (S : SS) : SS := msk (fun i => !inP vs i) 0 S
theorem prs_same : ∀ (σ τ : L2.St) (S : SS), σ.length = τ.length → (∀ (i : Nat) (x : Md × D), S[i]? = some (some x) → σ[i]? = τ[i]?) → prs σ S = prs τ S
  | [], [], _, _, _ => rfl
  | _ :: _, _ :: _, [], _, _ => by simp [prs]
  | v :: σ, w :: τ, x :: S, h, k => by
    have ih := prs_same σ τ S (by simpa using h) fun i y e => by simpa using k (i + 1) y (by simpa using e)
    simp only [prs, List.zip_cons_cons, List.filterMap_cons] at ih ⊢
    cases x with
    | none => rw [one_none, one_none]; exact ih
    | some r =>
      have e : v = w := by simpa using k 0 r rfl
      subst e
      rw [ih]
theorem wipeS_at {vs : List Nat} {S : SS} {i : Nat} {x : Md × D} (h : (wipeS vs S)[i]? = some (some x)) : S[i]? = some (some x) ∧ i ∉ vs := by
  obtain ⟨y, h1, h2⟩ := msk_get _ 0 i S _ h
  simp only [Nat.zero_add] at h2
  cases hq : inP vs i with
  | true => rw [hq] at h2; simp at h2
  | false =>
    rw [hq] at h2
    simp at h2
    subst h2
    exact ⟨h1, by simpa [inP] using hq⟩
theorem prs_wipe {vs : List Nat} {σ : L2.St} {S : SS} : prs (wipe σ vs) (wipeS vs S) = prs σ (wipeS vs S) :=
  prs_same _ _ _ (wipe_length σ vs) fun i x h => wipe_out (wipeS_at h).2
def stash (vs : List Nat) (σ : L2.St) (S : SS) : List T3 := prs σ (msk (inP vs) 0 S)
theorem nn (vs : List Nat) : (fun i => !(fun i => !inP vs i) i) = inP vs := by funext i; simp
theorem prs_split {vs : List Nat} {σ : L2.St} {S : SS} : (prs σ S).Perm (stash vs σ S ++ prs (wipe σ vs) (wipeS vs S)) := by
  have h := prs_msk (inP vs) 0 σ S
  rw [prs_wipe]
  exact h
theorem Cov.wip {vs : List Nat} {σ : L2.St} {S : SS} (h : Cov σ S) : Cov (wipe σ vs) (wipeS vs S) := by
  refine ⟨by rw [msk_len, wipe_length]; exact h.len, fun i x e => ?_⟩
  obtain ⟨h1, h2⟩ := wipeS_at e
  rw [wipe_out h2]
  exact h.at_ i x h1
section
variable {X : Cx} {c : Gh}
theorem SOk.wip {vs : List Nat} {G H : Hp} {σ : L2.St} {S : SS} {R : List T3} (h : SOk c G H σ S R) : SOk c G H (wipe σ vs) (wipeS vs S) (stash vs σ S ++ R) := by
  refine ⟨h.cov.wip, h.rel.perm ?_⟩
  refine ((prs_split (vs := vs)).append_left R).trans ?_
  rw [← List.append_assoc]
  exact List.perm_append_comm.append_right _
theorem Cov.unwip {vs : List Nat} {σ : L2.St} {S T : SS} (h : Cov σ S) (k : Cov (wipe σ vs) T) : Cov σ (mrg (inP vs) 0 S T) := by
  have hl : S.length = T.length := by rw [h.len, k.len, wipe_length]
  refine ⟨by rw [mrg_len _ _ _ _ hl, k.len, wipe_length], fun i x e => ?_⟩
  have := mrg_get _ 0 i S T _ e
  simp only [Nat.zero_add] at this
  split at this
  · exact h.at_ i x this
  · rename_i hq
    obtain ⟨v, hv⟩ := k.at_ i x this
    rw [wipe_out (by simpa [inP] using hq)] at hv
    exact ⟨v, hv⟩
theorem SOk.unwip {vs : List Nat} {G H G0 H0 : Hp} {σ : L2.St} {S T : SS} {R R0 L : List T3} (h : SOk c G0 H0 σ S R0) (k : SOk c G H (wipe σ vs) T (L ++ (stash vs σ S ++ R))) : SOk c G H σ (mrg (inP vs) 0 S T) (L ++ R) := by
  have hl : S.length = T.length := by rw [h.cov.len, k.cov.len, wipe_length]
  refine ⟨h.cov.unwip k.cov, ?_⟩
  obtain ⟨m1, m2⟩ := msk_mrg (inP vs) 0 S T hl
  have p : (prs σ (mrg (inP vs) 0 S T)).Perm (stash vs σ S ++ prs (wipe σ vs) (wipeS vs T)) := by
    have := prs_split (vs := vs) (σ := σ) (S := mrg (inP vs) 0 S T)
    unfold stash wipeS at this ⊢
    rw [m1, m2] at this
    exact this
  have sub : (prs (wipe σ vs) (wipeS vs T)).Sublist (prs (wipe σ vs) T) := by
    have q : ∀ (p : Nat → Bool) (n : Nat) (τ : L2.St) (U : SS), (prs τ (msk p n U)).Sublist (prs τ U) := by
      intro p n τ U
      induction τ generalizing n U with
      | nil => simp [prs]
      | cons v τ ih =>
        cases U with
        | nil => simp [prs, msk]
        | cons x U =>
          have ih := ih (n + 1) U
          simp only [prs, msk, List.zip_cons_cons, List.filterMap_cons] at ih ⊢
          cases p n
          · simp only [cond_false, one_none]
            cases one (v, x) with
            | none => exact ih
            | some t => exact ih.cons t
          · simp only [cond_true]
            cases one (v, x) with
            | none => exact ih
            | some t => exact ih.cons_cons t
    exact q _ 0 _ T
  have r2 := k.rel.sublist (List.Sublist.append_left sub _)
  refine r2.perm ?_
  rw [List.append_assoc, List.append_assoc, List.append_assoc]
  refine List.Perm.append_left L ?_
  refine List.Perm.trans ?_ (List.Perm.append_left R p.symm)
  rw [← List.append_assoc, ← List.append_assoc]
  exact List.perm_append_comm.append_right _
/-- the slots beyond vs -/
def outP (n : Nat) (vs : List Nat) : List Nat := (List.range n).filter fun i => !vs.contains i
theorem wipe_in {σ : L2.St} {i : Nat} : ∀ {vs : List Nat}, i ∈ vs → i < σ.length → (wipe σ vs)[i]? = some none
  | [], h, _ => by simp at h
  | v :: vs, h, hl => by
    unfold wipe
    by_cases e : v = i
    · subst e
      rw [List.getElem?_set_self (by rw [wipe_length]; exact hl)]
    · rw [List.getElem?_set_ne e]
      rcases List.mem_cons.mp h with q | q
      · exact absurd q.symm e
      · exact wipe_in q hl
theorem wipe_prot {n : Nat} {vs : List Nat} {σ σ2 : L2.St} (hn : σ.length = n) (h : Prot (outP n vs) (wipe σ vs) σ2) : wipe σ2 vs = wipe σ vs := by
  have hl : σ2.length = σ.length := by rw [h.1, wipe_length]
  refine List.ext_getElem? fun i => ?_
  by_cases hi : i < σ.length
  · by_cases hv : i ∈ vs
    · rw [wipe_in hv (by rw [hl]; exact hi), wipe_in hv hi]
    · rw [wipe_out hv]
      refine h.2 i ?_
      unfold outP
      rw [List.mem_filter]
      exact ⟨List.mem_range.mpr (by omega), by simpa using hv⟩
  · rw [List.getElem?_eq_none (by rw [wipe_length]; omega), List.getElem?_eq_none (by rw [wipe_length]; omega)]
/-! ### [e for x in it if ..] -/
def lcD (vs : List Nat) (g : FG) (tt : FT) (te : FE) : List D → List D → SS → M (List D × SS)
  | [], acc, S => .ok (acc, S)
  | d :: ds, acc, S => do
    let S1 ← g (.sh, d) S
    let (b, S2) ← tt S1
    if b then do
      let (r, S3) ← te S2
      let z ← giveR r
      if acc.length < sizeLine then lcD vs g tt te ds (acc ++ [z.2]) (wipeS vs S3) else stk
    else lcD vs g tt te ds acc (wipeS vs S2)
def fLc (n : Nat) (vs : List Nat) (fi : FI) (g : FG) (tt : FT) (te : FE) : FE := fun S => do
  let (ds, S1) ← fi S
  if S1.length = n then do
    let (acc, S2) ← lcD vs g tt te ds [] (wipeS vs S1)
    pure ((.ow .sh, .list acc), mrg (inP vs) 0 S1 S2)
  else stk
def ftYes : FT := fun S => .ok (true, S)
theorem ptsmono {es : List Expr} {t t' : TT} (h : PTs X es t) (k : ∀ σ H Q, t' σ H Q → t σ H Q) : PTs X es t' := ⟨fun pins s σ H Q I q => h.run pins s σ H Q I (k σ H Q q)⟩
theorem dts_nil : PTs X [] (tT c ftYes) := ptsmono pts_nil fun σ H Q h => by
  obtain ⟨G, S, R, ok, b, S', e, k⟩ := h
  cases e
  exact k G H (Sub.refl G) ok
theorem dts_one {e : Expr} {f : FT} (h : PT X e (tT c f)) : PTs X [e] (tT c f) := pts_one h
theorem SOk.swap {G H : Hp} {σ : L2.St} {S : SS} {a b : T3} {R : List T3} (h : SOk c G H σ S (a :: b :: R)) : SOk c G H σ S (b :: a :: R) := ⟨h.cov, h.rel.perm (.swap _ _ _)⟩
/-- a turn's end: the block's slots are forgotten -/
theorem SOk.rewip {vs : List Nat} {n : Nat} {G H : Hp} {σ σ2 : L2.St} {S : SS} {R : List T3} (hn : σ.length = n) (p : Prot (outP n vs) (wipe σ vs) σ2) (h : SOk c G H σ2 S R) : SOk c G H (wipe σ vs) (wipeS vs S) R := by
  have e := wipe_prot hn p
  have h2 := h.wip (vs := vs)
  rw [e] at h2
  exact ⟨h2.cov, h2.rel.sublist (List.Sublist.append_right (List.sublist_append_right _ _) _)⟩
theorem lc_read {n : Nat} {vs : List Nat} {fi : FI} {g : FG} {tt : FT} {te : FE} {σ : L2.St} {H : Hp} {Q : VK} (h : tE c (fLc n vs fi g tt te) σ H Q) : tLc (tId c fi) (tGd c (outP n vs) g) (tT c tt) (tE c te) vs σ H Q := by
  obtain ⟨G, S, R, ok, r, S', e, k⟩ := h
  obtain ⟨⟨ds, S1⟩, e1, e⟩ := bind_ok e
  by_cases hn : S1.length = n
  · dsimp only at e
    rw [if_pos hn] at e
    obtain ⟨⟨accf, S2f⟩, e2, e⟩ := bind_ok e
    cases e
    refine ⟨G, S, R, ok, ds, S1, e1, fun J G1 H1 s1 ok1 w => ?_⟩
    intro Da hD
    have hσ : σ.length = n := by rw [← ok1.cov.len]; exact hn
    have okw : SOk c G1 (upd H1 Da (.lst [])) (wipe σ vs) (wipeS vs S1) ((.ow .sh, .ref Da, .list []) :: (stash vs σ S1 ++ R)) := by
      have z := ok1.wip (vs := vs)
      exact ⟨z.cov, z.rel.new_lst hD .nil⟩
    refine ⟨fun i m H' => m = ds.length - i ∧ i ≤ ds.length ∧ ∃ G' T acc, Sub G1 G' ∧ SOk c G' H' (wipe σ vs) T ((.ow .sh, .ref Da, .list acc) :: (stash vs σ S1 ++ R)) ∧ lcD vs g tt te (ds.drop i) acc T = .ok (accf, S2f), ⟨_, rfl, Nat.zero_le _, G1, _, [], Sub.refl _, okw, e2⟩, ?_⟩
    rintro i m H' ⟨rfl, hle, G', T, acc, s2, ok2, e3⟩
    by_cases hlt : i < ds.length
    · refine .inr ⟨w.go G' H' i s2 ok2.sub hlt, fun H3 => ∃ G3 T3 acc3, Sub G1 G3 ∧ SOk c G3 H3 (wipe σ vs) T3 ((.ow .sh, .ref Da, .list acc3) :: (stash vs σ S1 ++ R)) ∧ lcD vs g tt te (ds.drop (i + 1)) acc3 T3 = .ok (accf, S2f), fun H3 h3 => ⟨ds.length - (i + 1), by omega, rfl, hlt, h3⟩, fun x H3 y => ?_⟩
      rw [List.drop_eq_getElem_cons hlt] at e3
      obtain ⟨T1, e4, e3⟩ := bind_ok e3
      obtain ⟨⟨b, T2⟩, e5, e3⟩ := bind_ok e3
      obtain ⟨G3, s3, ok3⟩ := yld_sh w s2 ok2 (List.getElem?_eq_getElem hlt) y
      refine ⟨G3, T, _, _, ok3, T1, e4, fun G4 σ4 H4 s4 p4 ok4 => ⟨wipe_prot hσ p4, G4, T1, _, ok4, b, T2, e5, fun G5 H5 s5 ok5 => ?_⟩⟩
      cases b with
      | false =>
        exact ⟨G5, _, acc, ((s2.trans s3).trans s4).trans s5, ok5.rewip hσ p4, e3⟩
      | true =>
        simp only [if_true] at e3 ⊢
        obtain ⟨⟨r, T3⟩, e6, e3⟩ := bind_ok e3
        obtain ⟨z, e7, e3⟩ := bind_ok e3
        split at e3
        · rename_i hsz
          refine ⟨G5, T2, _, ok5, r, T3, e6, fun G6 yv H6 s6 ok6 => ?_⟩
          obtain ⟨hz, G7, s7, rl7⟩ := Rel.give ok6.rel e7
          have ok7 : SOk c G7 H6 σ4 T3 ((.ow .sh, .ref Da, .list acc) :: (.sh, yv, r.2) :: (stash vs σ S1 ++ R)) := SOk.swap ⟨ok6.cov, rl7⟩
          have hy := rl7.sh_of
          obtain ⟨a, xs, dsx, ea, hd, h3, h4⟩ := Rel.ow_of ok7.rel
          cases ea
          cases hd
          refine ⟨xs, h3, by rw [h4.length]; exact hsz, G7, _, _, ((((s2.trans s3).trans s4).trans s5).trans s6).trans s7, SOk.rewip hσ p4 ⟨ok7.cov, ?_⟩, e3⟩
          rw [hz]
          have rl8 := Rel.write (show Rel c G7 H6 ((.ow .sh, .ref Da, .list acc) :: ((.sh, yv, r.2) :: (stash vs σ S1 ++ R) ++ prs σ4 T3)) from ok7.rel) (h4.app (.cons hy .nil))
          exact rl8.sublist (List.Sublist.cons_cons _ (List.Sublist.append_right (List.sublist_cons_self _ _) _))
        · cases e3
    · have ei : i = ds.length := by omega
      subst ei
      rw [List.drop_length] at e3
      cases e3
      refine .inl ⟨w.stop G' H' s2 ok2.sub, k G' _ H' (s1.trans s2) ?_⟩
      exact SOk.unwip (L := [(.ow .sh, .ref Da, .list accf)]) ok1 ok2
  · dsimp only at e
    rw [if_neg hn] at e
    cases e
theorem de_lc {n : Nat} {own : List (Str × Nat)} {vs : List Nat} {elt tg iter : Expr} {ifs : List Expr} {scope : Scope} {pos : Pos} {fi : FI} {g : FG} {tt : FT} {te : FE} (hc : X.calm = true) (hN : X.N.Nodup) (hi : PI X tg iter (tId c fi)) (ok : BlkOk X.N X.env.scope scope own)
    (hg : ∀ (s : Shared) (H : Hp) (C : Addr) (cl : List (Str × Addr)) (fp : List Addr), PG (X.blk s H scope (compEnvC scope cl C X.env) fp) tg (tGd c (outP n vs) g))
    (ht : ∀ (s : Shared) (H : Hp) (C : Addr) (cl : List (Str × Addr)) (fp : List Addr), PTs (X.blk s H scope (compEnvC scope cl C X.env) fp) ifs (tT c tt))
    (he : ∀ (s : Shared) (H : Hp) (C : Addr) (cl : List (Str × Addr)) (fp : List Addr), PE (X.blk s H scope (compEnvC scope cl C X.env) fp) elt (tE c te)) (hv : own.map (·.2) = vs := by rfl) (hs : ∀ x, foldedSetIterable iter X.env x = pure x := by intro _; rfl) :
    PE X (.ListComp elt [⟨tg, iter, ifs, 0⟩] scope pos) (tE c (fLc n vs fi g tt te)) := by
  subst hv
  exact pemono (pe_lc hc hN hi ok hg ht he hs) fun _ _ _ h => lc_read h
theorem ds_setLc {P : List Nat} {n : Nat} {own : List (Str × Nat)} {vs : List Nat} {i : Nat} {y : Str} {py : Pos} {elt tg iter : Expr} {ifs : List Expr} {scope : Scope} {pos spos : Pos} {fi : FI} {g : FG} {tt : FT} {te : FE} (hc : X.calm = true) (hN : X.N.Nodup) (hi : PI X tg iter (tId c fi)) (ok : BlkOk X.N X.env.scope scope own)
    (hg : ∀ (s : Shared) (H : Hp) (C : Addr) (cl : List (Str × Addr)) (fp : List Addr), PG (X.blk s H scope (compEnvC scope cl C X.env) fp) tg (tGd c (outP n vs) g))
    (ht : ∀ (s : Shared) (H : Hp) (C : Addr) (cl : List (Str × Addr)) (fp : List Addr), PTs (X.blk s H scope (compEnvC scope cl C X.env) fp) ifs (tT c tt))
    (he : ∀ (s : Shared) (H : Hp) (C : Addr) (cl : List (Str × Addr)) (fp : List Addr), PE (X.blk s H scope (compEnvC scope cl C X.env) fp) elt (tE c te))
    (hsw : swapsWith (.ListComp elt [⟨tg, iter, ifs, 0⟩] scope pos) (some (.Name y py)) spos.line X.env = pure true)
    (hy : X.N[i]? = some y := by rfl) (hyl : X.env.scope.names.lookup y = some .local := by rfl) (hP : P.all (fun j => j != i) = true := by rfl) (hv : own.map (·.2) = vs := by rfl) (hs : ∀ x, foldedSetIterable iter X.env x = pure x := by intro _; rfl) :
    PS X (.Assign [.Name y py] (.ListComp elt [⟨tg, iter, ifs, 0⟩] scope pos) spos) (tS c P (sAsg (gNm i) (fLc n vs fi g tt te))) := by
  subst hv
  refine psmono (ps_setLc hc hN hy hyl hsw hi ok hg ht he hs) fun D σ H h => ?_
  obtain ⟨G, S, R, ok, fl, S', e, k⟩ := h
  obtain ⟨⟨r, S1⟩, e1, e⟩ := bind_ok e
  obtain ⟨S2, e2, e⟩ := bind_ok e
  cases e2
  cases e
  exact lc_read (Q := fun v H' => gName i v σ H' D.nx) ⟨G, S, R, ok, r, S1, e1, fun G' v H' s ok' => k G' _ H' s (Prot.set hP) (ok'.store i)⟩
end
end O
set_option maxRecDepth 100000
set_option maxHeartbeats 1000000
namespace O
open PySem PySem.Spec PyProof.Rows L2

/-! ### defs: what they promise -/
def zp3 : List MV → List V → List T3
  | r :: rs, v :: vs => (r.1, v, r.2) :: zp3 rs vs
  | _, _ => []
abbrev SemF := List MV → M (MV × List MV)
/-- io: the parameters whose things come back -/
def spD (c : Gh) (n : Nat) (io : List Nat) (sem : SemF) : Sp := fun vs H Q _ => ∃ G R rs, Rel c G H (zp3 rs vs ++ R) ∧ rs.length = n ∧ vs.length = n ∧ ∃ r fs, sem rs = .ok (r, fs) ∧
  ∀ G' v H', Sub G G' → Rel c G' H' ((r.1, v, r.2) :: (zp3 fs (io.map (fun i => vs.getD i .non)) ++ R)) → Q v H'
def flR : Fl → M MV
  | .nx => .ok (.sh, .none)
  | .rt r => .ok r
  | _ => stk
def takesD : List Nat → SS → M (List MV)
  | [], _ => .ok []
  | i :: is, S => match S[i]? with
    | some (some r) => do
      let rs ← takesD is (S.set i none)
      pure (r :: rs)
    | _ => stk
def runD (m : Nat) (io : List Nat) (body : FS) : SemF := fun rs => do
  let (fl, S) ← body (rs.map some ++ List.replicate (m - rs.length) none)
  let r ← flR fl
  let fs ← takesD io S
  pure (r, fs)
section
variable {c : Gh}
theorem prs_start {m : Nat} : ∀ {rs : List MV} {vs : List V}, rs.length = vs.length → prs (vs.map some ++ List.replicate m none) (rs.map some ++ List.replicate m none) = zp3 rs vs
  | [], [], _ => by
    show prs (List.replicate m none) (List.replicate m none) = []
    induction m with
    | zero => rfl
    | succ m ih => simp only [prs, List.replicate_succ, List.zip_cons_cons, List.filterMap_cons, one_none] at ih ⊢; exact ih
  | r :: rs, v :: vs, h => by
    have ih := prs_start (m := m) (rs := rs) (vs := vs) (by simpa using h)
    simp only [prs, List.map_cons, List.cons_append, List.zip_cons_cons, List.filterMap_cons, zp3] at ih ⊢
    rw [ih]
    rfl
theorem cov_start {m : Nat} {rs : List MV} {vs : List V} (h : rs.length = vs.length) : Cov (vs.map some ++ List.replicate m none) (rs.map some ++ List.replicate m none) := by
  refine ⟨by simp [h], fun i x e => ?_⟩
  by_cases hi : i < rs.length
  · have hv : i < vs.length := by omega
    exact ⟨vs[i], by rw [List.getElem?_append_left (by simpa using hv)]; simp [hv]⟩
  · rw [List.getElem?_append_right (by simpa using hi)] at e
    rw [List.getElem?_replicate] at e
    split at e <;> simp at e
theorem takes_ok {G H : Hp} {σ : L2.St} {w : Nat → V} : ∀ {io : List Nat} {S : SS} {R : List T3} {fs : List MV}, SOk c G H σ S R → (∀ i ∈ io, σ[i]? = some (some (w i))) → takesD io S = .ok fs → ∃ S', SOk c G H σ S' (zp3 fs (io.map w) ++ R) := by
  intro io
  induction io with
  | nil => intro S R fs ok _ e; cases e; exact ⟨S, ok⟩
  | cons i is ih =>
    intro S R fs ok hw e
    simp only [takesD] at e
    split at e
    · rename_i r hS
      obtain ⟨rs, e1, e⟩ := bind_ok e
      cases e
      obtain ⟨v, hv, rl⟩ := ok.slot hS
      have hv' := hw i List.mem_cons_self
      rw [hv] at hv'
      have hv' : v = w i := by simpa using hv'
      subst hv'
      obtain ⟨S', ok'⟩ := ih (R := (r.1, w i, r.2) :: R) ⟨ok.cov.none i, rl⟩ (fun j hj => hw j (List.mem_cons_of_mem _ hj)) e1
      refine ⟨S', ok'.cov, ok'.rel.perm ?_⟩
      rw [List.append_assoc]
      show (zp3 rs (is.map w) ++ ((r.1, w i, r.2) :: R ++ prs σ S')).Perm ((r.1, w i, r.2) :: zp3 rs (is.map w) ++ R ++ prs σ S')
      refine List.perm_middle.trans ?_
      simp
    · cases e
section
variable {P : Program} {w : World} {K : PySem.W.Frag} {mg : Str → Option Value} {base : Heap}
theorem ends_ok {G' H' : Hp} {σ0 σ' : L2.St} {S' : SS} {R : List T3} {n m : Nat} {io : List Nat} {vs : List V} {fs : List MV} {r : MV} {v : V} (hvs : vs.length = n) (hio : ∀ i ∈ io, i < n) (h0 : σ0 = vs.map some ++ List.replicate m none) (p : Prot io σ0 σ') (ok : SOk c G' H' σ' S' ((r.1, v, r.2) :: R)) (e : takesD io S' = .ok fs) :
    Rel c G' H' ((r.1, v, r.2) :: (zp3 fs (io.map (fun i => vs.getD i .non)) ++ R)) := by
  obtain ⟨S2, ok2⟩ := takes_ok (w := fun i => vs.getD i .non) ok (fun i hi => by
    rw [p.2 i hi, h0]
    have := hio i hi
    rw [List.getElem?_append_left (by simpa using (show i < vs.length by omega))]
    simp [show i < vs.length by omega]) e
  have := ok2.rel.sublist (List.sublist_append_left _ _)
  exact this.perm List.perm_middle
/-- a def keeps its promise by its body -/
theorem calD {x : Str} {st : Stmt} {f : Addr} {fd : FuncData} {N ps : List Str} {k n : Nat} {io : List Nat} {body : FS} (F : C8.Def K mg x st f fd) (b : Binds K fd ps []) (S : FnScope N ps (C8.fnScope st)) (hn : ps.length = n) (hio : ∀ i ∈ io, i < n)
    (hb : ∀ (cdv : Value) (A : Around) (outer : List Env) (s : Shared) (H : Hp) (E : XK), Room k (A.deeper (envOfC x (C8.fnScope st) s.heap.objs.size f cdv)) → PSs (cxOf C8.CX0 P w K mg base N x (C8.fnScope st) f cdv A outer s H E).nox (C8.fnBody st) (tS c io body)) :
    C8.Cal P w K mg base (k + 1) x (spD c n io (runD N.length io body)) [] := by
  refine C8.cal0 F b .nil S (fun vs H Q E h => ?_) fun cdv A outer s H vs Q E hr h => ⟨_, hb cdv A outer s H E hr, ?_⟩
  · obtain ⟨G, R, rs, _, _, hl, _⟩ := h
    rw [hl, hn]
  · obtain ⟨G, R, rs, rl, hl, hv, r, fs, e, k⟩ := h
    obtain ⟨⟨fl, S'⟩, e1, e⟩ := bind_ok e
    obtain ⟨r', e2, e⟩ := bind_ok e
    obtain ⟨fs', e3, e⟩ := bind_ok e
    cases e
    have hlv : rs.length = vs.length := by omega
    have e0 : L2.start N vs = vs.map some ++ List.replicate (N.length - rs.length) none := by unfold L2.start; rw [hlv]
    refine ⟨G, rs.map some ++ List.replicate (N.length - rs.length) none, R, ?_, fl, S', e1, ?_⟩
    · rw [e0]
      refine ⟨cov_start hlv, ?_⟩
      rw [prs_start hlv]
      exact rl.perm List.perm_append_comm
    · cases fl with
      | nx =>
        cases e2
        exact fun G' σ' H' s p ok => k G' .non H' s (ends_ok (r := (.sh, .none)) hv hio e0 p ⟨ok.cov, ok.rel.put_sh .non⟩ e3)
      | rt r =>
        cases e2
        exact fun G' v σ' H' s p ok => k G' v H' s (ends_ok hv hio e0 p ok e3)
      | bk => cases e2
      | ct => cases e2
end
/-! ### defs: their calls -/
def grab : List Tk → SS → M (List MV × SS)
  | [], S => .ok ([], S)
  | .val r :: ts, S => do
    let (rs, S1) ← grab ts S
    pure (r :: rs, S1)
  | .slot i :: ts, S => match S[i]? with
    | some (some r) => do
      let (rs, S1) ← grab ts (S.set i none)
      pure (r :: rs, S1)
    | _ => stk
def putB (ts : List Tk) : List Nat → List MV → SS → M SS
  | [], [], S => .ok S
  | j :: io, f :: fs, S => match ts[j]? with
    | some (.slot i) => if i < S.length then putB ts io fs (S.set i (some f)) else stk
    | some (.val _) => putB ts io fs S
    | none => stk
  | _, _, _ => stk
def fCall (n : Nat) (io : List Nat) (sem : SemF) (f : FA) : FE := fun S => do
  let (ts, S1) ← f S
  let (rs, S2) ← grab ts S1
  if rs.length = n then do
    let (r, fs) ← sem rs
    let S3 ← putB ts io fs S2
    pure (r, S3)
  else stk
theorem TkOks.len {σ : L2.St} : ∀ {ts : List Tk} {vs : List V}, TkOks σ ts vs → ts.length = vs.length
  | _, _, .nil => rfl
  | _, _, .cons _ t => by simp [TkOks.len t]
theorem grab_ok {G H : Hp} {σ : L2.St} : ∀ {ts : List Tk} {vs : List V} {S S2 : SS} {R : List T3} {rs : List MV}, TkOks σ ts vs → SOk c G H σ S (tkRs ts vs ++ R) → grab ts S = .ok (rs, S2) → SOk c G H σ S2 (zp3 rs vs ++ R) ∧ rs.length = vs.length ∧ S2.length = S.length := by
  intro ts
  induction ts with
  | nil => intro vs S S2 R rs h ok e; cases h; cases e; exact ⟨ok, rfl, rfl⟩
  | cons t ts ih =>
    intro vs S S2 R rs h ok e
    cases h with
    | cons h1 h2 =>
      rename_i v vs
      cases t with
      | val r =>
        obtain ⟨⟨rs', S1⟩, e1, e⟩ := bind_ok e
        cases e
        have q : (((r.1, v, r.2) :: (tkRs ts vs ++ R)) ++ prs σ S).Perm ((tkRs ts vs ++ ((r.1, v, r.2) :: R)) ++ prs σ S) := List.Perm.append_right _ List.perm_middle.symm
        have ok' : SOk c G H σ S (tkRs ts vs ++ ((r.1, v, r.2) :: R)) := ⟨ok.cov, ok.rel.perm q⟩
        obtain ⟨a, b, d⟩ := ih h2 ok' e1
        exact ⟨⟨a.cov, a.rel.perm (List.Perm.append_right _ List.perm_middle)⟩, by simp [b], d⟩
      | slot i =>
        simp only [grab] at e
        split at e
        · rename_i r hS
          obtain ⟨⟨rs', S1⟩, e1, e⟩ := bind_ok e
          cases e
          obtain ⟨w, hw, rl⟩ := ok.slot hS
          have h1 : σ[i]? = some (some v) := h1
          rw [hw] at h1
          have ew : w = v := by simpa using h1
          subst ew
          have q : (((r.1, w, r.2) :: (tkRs ts vs ++ R)) ++ prs σ (S.set i none)).Perm ((tkRs ts vs ++ ((r.1, w, r.2) :: R)) ++ prs σ (S.set i none)) := List.Perm.append_right _ List.perm_middle.symm
          have ok' : SOk c G H σ (S.set i none) (tkRs ts vs ++ ((r.1, w, r.2) :: R)) := ⟨ok.cov.none i, rl.perm q⟩
          obtain ⟨a, b, d⟩ := ih h2 ok' e1
          exact ⟨⟨a.cov, a.rel.perm (List.Perm.append_right _ List.perm_middle)⟩, by simp [b], by rw [d, List.length_set]⟩
        · cases e
theorem tkOks_get {σ : L2.St} : ∀ {ts : List Tk} {vs : List V} {j : Nat} {t : Tk}, TkOks σ ts vs → ts[j]? = some t → ∃ v, vs[j]? = some v ∧ tkOk σ t v
  | _, _, _, _, .nil, e => by simp at e
  | _, _, 0, _, .cons h _, e => by simp at e; subst e; exact ⟨_, rfl, h⟩
  | _, _, j + 1, _, .cons _ t, e => by simpa using tkOks_get (j := j) t (by simpa using e)
theorem prs_none_sub {σ : L2.St} : ∀ {S : SS} {i : Nat}, (prs σ (S.set i none)).Sublist (prs σ S) := by
  induction σ with
  | nil => intro S i; simp [prs]
  | cons v σ ih =>
    intro S i
    cases S with
    | nil => simp [prs]
    | cons x S =>
      cases i with
      | zero =>
        simp only [prs, List.set_cons_zero, List.zip_cons_cons, List.filterMap_cons, one_none]
        cases one (v, x) with
        | none => exact List.Sublist.refl _
        | some t => exact List.sublist_cons_self _ _
      | succ i =>
        have ih := ih (S := S) (i := i)
        simp only [prs, List.set_cons_succ, List.zip_cons_cons, List.filterMap_cons] at ih ⊢
        cases one (v, x) with
        | none => exact ih
        | some t => exact ih.cons_cons t
theorem putB_ok {G H : Hp} {σ : L2.St} {ts : List Tk} {vs : List V} (ht : TkOks σ ts vs) : ∀ {io : List Nat} {fs : List MV} {S S3 : SS} {R : List T3}, Cov σ S → Rel c G H (zp3 fs (io.map (fun i => vs.getD i .non)) ++ (R ++ prs σ S)) → putB ts io fs S = .ok S3 → SOk c G H σ S3 R := by
  intro io
  induction io with
  | nil =>
    intro fs S S3 R cv rl e
    cases fs with
    | nil => cases e; exact ⟨cv, rl⟩
    | cons => cases e
  | cons j io ih =>
    intro fs S S3 R cv rl e
    cases fs with
    | nil => cases e
    | cons f fs =>
      simp only [putB] at e
      split at e
      · rename_i i hj
        split at e
        · rename_i hi
          obtain ⟨v, hv, hs⟩ := tkOks_get ht hj
          have hs : σ[i]? = some (some v) := hs
          refine ih (cv.put hs) ?_ e
          have hg : vs.getD j .non = v := by simp [List.getD, hv]
          have rl : Rel c G H ((f.1, vs.getD j .non, f.2) :: (zp3 fs (io.map (fun i => vs.getD i .non)) ++ (R ++ prs σ S))) := rl
          rw [hg] at rl
          have p := prs_put (σ := σ) (S := S) (i := i) (v := v) (m := f.1) (d := f.2) (lt_of_get hs) hi
          rw [set_self hs] at p
          have rl2 := rl.sublist (List.Sublist.cons_cons _ (List.Sublist.append_left (List.Sublist.append_left (prs_none_sub (σ := σ) (S := S) (i := i)) R) (zp3 fs (io.map fun i => vs.getD i .non))))
          refine rl2.perm ?_
          rw [← List.append_assoc, ← List.append_assoc]
          exact List.perm_middle.symm.trans (List.Perm.append_left _ p.symm)
        · cases e
      · exact ih cv (rl.sublist (List.sublist_cons_self _ _)) e
      · cases e
variable {X : Cx}
theorem call_read {n : Nat} {io : List Nat} {sem : SemF} {f : FA} {E : XK} {σ : L2.St} {H : Hp} {Q : VK} (h : tE c (fCall n io sem f) σ H Q) : tCall (spD c n io sem) [] E (tA c f) σ H Q := by
  obtain ⟨G, S, R, ok, r, S', e, k⟩ := h
  obtain ⟨⟨ts, S1⟩, e1, e⟩ := bind_ok e
  obtain ⟨⟨rs, S2⟩, e2, e⟩ := bind_ok e
  dsimp only at e
  by_cases hl : rs.length = n
  · rw [if_pos hl] at e
    obtain ⟨⟨r', fs⟩, e3, e⟩ := bind_ok e
    obtain ⟨S3, e4, e⟩ := bind_ok e
    cases e
    refine ⟨G, S, R, ok, ts, S1, e1, fun G1 vs H1 s1 h1 ok1 => ?_⟩
    obtain ⟨ok2, hlen, hS⟩ := grab_ok h1 ok1 e2
    rw [List.append_nil]
    refine ⟨G1, R ++ prs σ S2, rs, by rw [← List.append_assoc]; exact ok2.rel, hl, by omega, r', fs, e3, fun G' v H' s rl => ?_⟩
    have rl2 : Rel c G' H' (zp3 fs (io.map (fun i => vs.getD i .non)) ++ (((r'.1, v, r'.2) :: R) ++ prs σ S2)) := rl.perm (by
      refine List.perm_middle.symm.trans ?_
      simp)
    exact k G' v H' (s1.trans s) (putB_ok h1 ok2.cov rl2 e4)
  · rw [if_neg hl] at e
    cases e
theorem de_call {k j n : Nat} {io : List Nat} {sem : SemF} {x : Str} {e : Expr} {es : List Expr} {f : FA} {p pos : Pos} (cl : C8.Cal X.prog X.w X.K X.mg X.base k x (spD c n io sem) []) (hr : Room j X.A) (hk : k ≤ j) (hg : Gl X x) (ha : PA X (e :: es) (tA c f))
    (hdb : (x == ("__debug__" : Str)) = false := by decide) (he : starEach (e :: es) X.env = (false, eval e X.env) :: starEach es X.env := by rfl) (hpl : (backTo pos (starEach es X.env)).any (·.1) = false := by rfl) :
    PE X (.Call (.Name x p) (e :: es) [] pos) (tE c (fCall n io sem f)) :=
  pemono (C8.pe_c cl hr hk hg ha hdb he hpl) fun _ _ _ h => call_read h
theorem de_call0 {k j n : Nat} {io : List Nat} {sem : SemF} {x : Str} {p pos : Pos} (cl : C8.Cal X.prog X.w X.K X.mg X.base k x (spD c n io sem) []) (hr : Room j X.A) (hk : k ≤ j) (hg : Gl X x)
    (hdb : (x == ("__debug__" : Str)) = false := by decide) :
    PE X (.Call (.Name x p) [] [] pos) (tE c (fCall n io sem aNil)) := by
  obtain ⟨f, fd, ps, ds, F, hm, kp, b, d⟩ := cl.ex
  refine pemono (pe_call0 F (hr.mono hk) hg hm kp b d C8.pass0 hdb (E := C8.E0)) fun σ H Q h => ?_
  obtain ⟨G, S, R, ok, ts, S1, e1, k1⟩ := call_read (E := C8.E0) h
  cases e1
  exact k1 G [] H (Sub.refl G) .nil ok
end
end O
set_option maxRecDepth 100000
set_option maxHeartbeats 1000000
namespace O
open PySem PySem.Spec PyProof.Rows L2
section
variable {X : Cx} {c : Gh} {a b d : Expr} {oa ob oc : FO} {pos : Pos}
/-! ### a op b op' c -/
def fChain (sem sem' : Sem2) (oa ob oc : FO) : FE := fun S => do
  let (ta, S1) ← oa S
  let (tb, S2) ← ob S1
  let ra ← tkGet ta S2
  let rb ← tkGet tb S2
  let r ← sem ra rb
  match r.2 with
  | .bool true => do
    let (tc, S3) ← oc S2
    let rb' ← tkGet tb S3
    let rc ← tkGet tc S3
    let z ← sem' rb' rc
    pure (z, S3)
  | .bool false => pure ((.sh, .bool false), S2)
  | _ => stk
theorem chain_read {sem sem' : Sem2} {σ : L2.St} {H : Hp} {Q : VK} (h : tE c (fChain sem sem' oa ob oc) σ H Q) : tChain (r2D c sem) (r2D c sem') (tO c oa) (tO c ob) (tO c oc) σ H Q := by
  obtain ⟨G, S, R, ok, r, S', e, k⟩ := h
  obtain ⟨⟨ta, S1⟩, e1, e⟩ := bind_ok e
  obtain ⟨⟨tb, S2⟩, e2, e⟩ := bind_ok e
  obtain ⟨ra, e3, e⟩ := bind_ok e
  obtain ⟨rb, e4, e⟩ := bind_ok e
  obtain ⟨r', e5, e⟩ := bind_ok e
  refine ⟨G, S, R, ok, ta, S1, e1, fun G1 x H1 s1 h1 ok1 => ?_⟩
  refine ⟨G1, S1, _, ok1, tb, S2, e2, fun G2 y H2 s2 h2 ok2 => ?_⟩
  refine ⟨G2, _, ra, rb, r', ok2.rel, tk_view (R := R) ok2 (fun t ht => List.mem_append_right _ (List.mem_append_left _ ht)) h1 e3, tk_view (R := R) ok2 (fun t ht => List.mem_append_left _ ht) h2 e4, e5, fun G3 v H3 s rl => ?_⟩
  obtain ⟨m, dd⟩ := r'
  dsimp only at e
  split at e
  · cases bool_of rl
    refine ⟨true, rfl, ?_⟩
    rw [if_pos rfl]
    obtain ⟨⟨tc, S3⟩, e6, e⟩ := bind_ok e
    obtain ⟨rb', e7, e⟩ := bind_ok e
    obtain ⟨rc, e8, e⟩ := bind_ok e
    obtain ⟨z, e9, e⟩ := bind_ok e
    cases e
    refine ⟨G3, S2, _, ⟨ok2.cov, rl.drop⟩, tc, _, e6, fun G4 w H4 s4 h4 ok4 => ?_⟩
    refine ⟨G4, _, rb', rc, r, ok4.rel, tk_view (R := R) ok4 (fun t ht => List.mem_append_right _ (List.mem_append_left _ ht)) h2 e7, tk_view (R := R) ok4 (fun t ht => List.mem_append_left _ ht) h4 e8, e9, fun G5 v H5 s5 rl5 => ?_⟩
    refine k G5 v H5 ((((s1.trans s2).trans s).trans s4).trans s5) ⟨ok4.cov, rl5.sublist (List.Sublist.cons_cons _ (List.Sublist.append_right ?_ _))⟩
    exact ((List.sublist_append_right _ _).trans (List.sublist_append_right _ _)).trans (List.sublist_append_right _ _)
  · cases bool_of rl
    cases e
    refine ⟨false, rfl, ?_⟩
    rw [if_neg Bool.false_ne_true]
    refine k G3 _ H3 ((s1.trans s2).trans s) ⟨ok2.cov, rl.drop.sublist ?_ |>.put_sh (.bl _)⟩
    exact List.Sublist.append_right ((List.sublist_append_right _ _).trans (List.sublist_append_right _ _)) _
  · cases e
theorem de_chain {op op' : CmpOp} {sem sem' : Sem2} (ho : OpR X (compareOp op) (r2D c sem)) (ho' : OpR X (compareOp op') (r2D c sem')) (ha : PE X a (tO c oa)) (hb : PE X b (tO c ob)) (hc : PE X d (tO c oc))
    (hm : lastMarks [op, op'] [b, d] = false := by with_unfolding_all rfl) : PE X (.Compare a [op, op'] [b, d] pos) (tE c (fChain sem sem' oa ob oc)) := pemono (pe_chain ho ho' ha hb hc hm) fun _ _ _ h => chain_read h
theorem dt_chain {op op' : CmpOp} {sem sem' : Sem2} (ho : OpR X (compareOp op) (r2D c sem)) (ho' : OpR X (compareOp op') (r2D c sem')) (ha : PE X a (tO c oa)) (hb : PE X b (tO c ob)) (hc : PE X d (tO c oc))
    (hm : lastMarks [op, op'] [b, d] = false := by with_unfolding_all rfl) : PT X (.Compare a [op, op'] [b, d] pos) (tT c (tB1 (fChain sem sem' oa ob oc))) := ptmono (pt_chain ho ho' ha hb hc hm) fun σ H Q h => by
  obtain ⟨G, S, R, ok, r, S1, e, k⟩ := tb_read h
  exact chain_read ⟨G, S, R, ok, r, S1, e, k⟩
end
/-! ### boot -/
theorem bt_len : bootBuiltins "len" = some (.builtin "len") := by decide +kernel
theorem bt_abs : bootBuiltins "abs" = some (.builtin "abs") := by decide +kernel
theorem bt_all : bootBuiltins "all" = some (.builtin "all") := by decide +kernel
theorem bt_any : bootBuiltins "any" = some (.builtin "any") := by decide +kernel
theorem bt_sum : bootBuiltins "sum" = some (.builtin "sum") := by decide +kernel
theorem bt_int : bootBuiltins "int" = some (.type "int") := by decide +kernel
theorem bt_bool : bootBuiltins "bool" = some (.type "bool") := by decide +kernel
theorem bt_str : bootBuiltins "str" = some (.type "str") := by decide +kernel
theorem bt_list : bootBuiltins "list" = some (.type "list") := by decide +kernel
theorem bt_tuple : bootBuiltins "tuple" = some (.type "tuple") := by decide +kernel
end O
set_option maxRecDepth 100000
set_option maxHeartbeats 1000000
namespace O
open PySem PySem.Spec PyProof.Rows L2
theorem hu {k : Nat} {A : Around} (r : Room k A) : A.units + 64 < cLine := by have := r.un; omega
theorem hu1 {k : Nat} {A : Around} (r : Room k A) : A.units + 65 < cLine := by have := r.un; omega
section
variable {X : Cx} {c : Gh} {P : List Nat} {pos : Pos}
/-! += -/
def semIAdd : Sem2 := fun a b => match a.2, b.2 with
  | .int i, .int j => .ok (.sh, .int (i + j))
  | _, _ => stk
theorem o_iadd (hK : c.K = X.K) : OpR X (inplaceOp .Add) (r2D c semIAdd) := by
  intro pins s σ H x y v u Q I rx ry h
  obtain ⟨G, L, ra, rb, r, rl, va, vb, e, k⟩ := h
  obtain ⟨m, d⟩ := ra
  obtain ⟨n, d'⟩ := rb
  unfold semIAdd at e
  simp only at e
  split at e
  · cases e
    exact iop_add pins s σ H x y v u Q I rx ry ⟨_, _, int_of rl va, int_of rl vb, r2_end rl k rfl (.int _)⟩
  · cases e
/-! a, b = x, y -/
def sPar (i j : Nat) (f : FA) : FS := fun S => do
  let (ts, S1) ← f S
  match ts with
  | [.val r, .val q] => pure (.nx, (S1.set i (some r)).set j (some q))
  | _ => stk
theorem ds_par {i j : Nat} {x y : Str} {a b : Expr} {f : FA} {px py pt : Pos} {kt k2 pt2} (hN : X.N.Nodup) (ha : PA X [a, b] (tA c f)) (h : PS X (.Assign [.Tuple [.Name x px, .Name y py] kt pt] (.Tuple [a, b] k2 pt2) pos) (tPar i j (tA c f))) (hij : i ≠ j := by decide) (hP : P.all (fun z => z != i) = true := by rfl) (hP2 : P.all (fun z => z != j) = true := by rfl) :
    PS X (.Assign [.Tuple [.Name x px, .Name y py] kt pt] (.Tuple [a, b] k2 pt2) pos) (tS c P (sPar i j f)) := psmono h fun D σ H h => by
  obtain ⟨G, S, R, ok, fl, S', e, k⟩ := h
  obtain ⟨⟨ts, S1⟩, e1, e⟩ := bind_ok e
  dsimp only at e
  split at e
  · rename_i r q
    cases e
    refine ⟨G, S, R, ok, _, _, e1, fun G1 vs H1 s1 h1 ok1 => ?_⟩
    cases h1 with
    | cons h1 h2 =>
      cases h2 with
      | cons h2 h3 =>
        cases h3
        rename_i v w
        refine ⟨v, w, rfl, k G1 _ H1 s1 ((Prot.set hP).trans (Prot.set hP2)) ?_⟩
        have ok2 : SOk c G1 H1 σ S1 ((r.1, v, r.2) :: (q.1, w, q.2) :: R) := ok1
        exact (ok2.store i).store j
  · cases e
end
end O
set_option maxRecDepth 100000
set_option maxHeartbeats 2000000
namespace O
open PySem PySem.Spec PyProof.Rows L2

/-! ### the context of a generator expression's frame -/
abbrev gEnv (scope : Scope) (C : Addr) (code : Value) (env : Env) : Env := genEnv scope (cloFrom env.cells scope.names []) C code builtinsNs env
abbrev gCx (X : Cx) (A : Around) (s : Shared) (H : Hp) (genv : Env) (fp : List Addr) : Cx := { X with s_0 := s, H_0 := H, env := genv, A := A, outer := X.stack, stack := genv :: X.stack, ex := fp, fn := fun _ => false, pn := [], xe := fun _ _ => False }
section
variable {X : Cx} {pins : List (Addr × Obj)} {σ : L2.St} {H : Hp} {s : Shared}
theorem gen_inv {A : Around} {scope : Scope} {own : List (Str × Nat)} {fp : List Addr} {code : Value} {h' : Heap} {gs : GenState} {tk : Nat} {a : Addr} {go : Obj} {m : Str → Option Value} (I : Inv X pins σ H s) (ok : BlkOk X.N X.env.scope scope own) (hN : X.N.Nodup) (hcell : ∀ y ∈ scope.names, y.2 ≠ .cell)
    (hfp : ∀ b ∈ fp, FpOk X pins H b ∧ b < s.heap.objs.size) (hA : A.handled = none) (hF : A.frames = some (gEnv scope s.heap.objs.size code X.env :: X.stack)) (hn : h'.Ns s.heap.objs.size m) (kp : ∀ b o, s.heap.get? b = some o → h'.get? b = some o) (ha : h'.get? a = some go) (hac : s.heap.objs.size < a) (hgo : ∀ v, go.data ≠ .cell v) (hg : gs.bare = true) :
    Inv (gCx X A s H (gEnv scope s.heap.objs.size code X.env) fp) [(a, go)] (wipe σ (own.map (·.2))) H { s with heap := h', gens := s.gens.push gs, toks := tk } := by
  have hfree : ∀ y ∈ scope.names, y.2 = .free → ∃ c, X.env.cells.lookup y.1 = some c := fun y hy e => by
    rcases ok.free y hy e with k | k
    · exact I.ok.has _ (.inl k)
    · exact I.ok.has _ (.inr k)
  have cm : ∀ {y c}, (y, c) ∈ cloFrom X.env.cells scope.names [] → X.env.cells.lookup y = some c ∧ c < s.heap.objs.size := fun {y c} hm => by
    rcases cloFrom_mem hm with hm | ⟨h1, rfl⟩
    · cases hm
    · obtain ⟨c, hc⟩ := hfree _ h1 rfl
      rw [hc]
      obtain ⟨w, z⟩ := I.cell _ _ hc
      exact ⟨rfl, z.lt⟩
  have cl : ∀ {y c}, (gEnv scope s.heap.objs.size code X.env).cells.lookup y = some c → X.env.cells.lookup y = some c ∧ c < s.heap.objs.size := fun {y c} e => cm (PySem.mem_of_lookup e)
  have look : ∀ {y}, scope.names.lookup y = some .free → ∃ c, (gEnv scope s.heap.objs.size code X.env).cells.lookup y = some c ∧ X.env.cells.lookup y = some c := fun {y} hl => by
    have hy : (y, NameKind.free) ∈ scope.names := PySem.mem_of_lookup hl
    obtain ⟨c', e'⟩ := mem_lookup (cloFrom_has (cells := X.env.cells) (acc := []) hy)
    exact ⟨c', e', (cl e').1⟩
  have okB : (gCx X A s H (gEnv scope s.heap.objs.size code X.env) fp).Ok := by
    refine ⟨I.ok.mod, ok.kind, I.ok.glob, rfl, Nat.le_refl _, fun y z c e1 e2 => I.ok.inj y z c (cl e1).1 (cl e2).1, fun y hy => ?_, fun y c z e => ?_, fun _ => hA, hF, .inr ⟨rfl, rfl⟩, fun b hb => ⟨?_, fun y c e z => ?_⟩, I.bs, Nat.le_trans I.ok.bsz I.sz, fun b o e hb => ?_, fun b hb z => ?_, I.stack, I.stkFree⟩
    · rcases hy with hy | hy
      · have hy : scope.names.lookup y = some .cell := hy
        exact absurd rfl (hcell _ (PySem.mem_of_lookup hy))
      · obtain ⟨c, h1, _⟩ := look hy
        exact ⟨c, h1⟩
    · cases z
    · exact Nat.ne_of_lt (hfp b hb).2
    · exact (hfp b hb).1.2.2.2.2.1 y c (cl e).1 z
    · rcases (hfp b hb).1.2.2.2.1 with z | z
      · exact I.ok.noex b o e z
      · exact absurd (Nat.lt_of_lt_of_le (Heap.lt_size e) (Nat.le_trans I.ok.bsz z)) (Nat.lt_irrefl _)
    · rcases List.mem_cons.mp (I.stkSub b z) with z | z
      · exact (hfp b hb).1.2.1 z
      · exact (hfp b hb).1.2.2.1 z
  refine ⟨okB, rfl, I.bare.push hg, Un.kept kp, ⟨m, hn, fun i y av e1 e2 e3 => ?_⟩, fun y c e => ?_, ?_, fun y c e => ?_, fun p hp => ?_, I.hok.kept kp, by rw [wipe_length]; exact I.len⟩
  · obtain ⟨e2, hne⟩ := wipe_some e2
    have no : ∀ k, scope.names.lookup y = some k → ¬ (k = .local ∨ k = .cell) := fun k e hh => by
      rcases ok.own _ (PySem.mem_of_lookup e) hh with e' | e'
      · obtain ⟨p, hp, hpy⟩ := List.mem_map.mp e'
        have e3 := ok.ix p hp
        have : p.1 = y := hpy
        rw [this] at e3
        exact hne (List.mem_map.mpr ⟨p, hp, nodup_ix hN e3 e1⟩)
      · exact e' (List.mem_of_getElem? e1)
    have e3 : Vis scope y := e3
    have hfr : scope.names.lookup y = some .free := by
      rcases e3 with e3 | e3 | e3
      · exact absurd (.inl rfl) (no _ e3)
      · exact absurd (.inr rfl) (no _ e3)
      · exact e3
    obtain ⟨m', hn', hl⟩ := I.loc
    have hvis : Vis X.env.scope y := (ok.free _ (PySem.mem_of_lookup hfr) rfl).elim (fun k => .inr (.inl k)) (fun k => .inr (.inr k))
    obtain ⟨w, r, q⟩ := hl i y av e1 e2 hvis
    refine ⟨w, r, .inr ⟨.inr hfr, ?_⟩⟩
    obtain ⟨c, h1, h2⟩ := look hfr
    rcases q with ⟨k, _⟩ | ⟨_, c', e', z⟩
    · have k : X.env.scope.names.lookup y = some .local := k
      rcases ok.free _ (PySem.mem_of_lookup hfr) rfl with k' | k' <;> rw [show X.env.scope.names.lookup y = _ from k'] at k <;> cases k
    · rw [h2] at e'; cases e'
      exact ⟨c, h1, z.keeps kp⟩
  · obtain ⟨w, z⟩ := I.cell y c (cl e).1
    exact ⟨w, z.keeps kp⟩
  · exact I.hok.fresh (Nat.le_refl _)
  · exact I.freeC y c (cl e).1
  · have hp : p = (a, go) := by simpa using hp
    subst hp
    exact ⟨ha, I.hok.fresh (Nat.le_of_lt hac), Nat.ne_of_gt hac, fun z => Nat.lt_irrefl _ (Nat.lt_trans hac (Heap.lt_size (show s.heap.get? a = _ from (by
      exact (I.stack.mem z).2.choose_spec.1)))), hgo⟩
/-- the generator's number stands for its frame -/
theorem over_frames {A : Around} {c : Code} {l : List Env} {e : Env} (h : A.frames = some l) (hc : c.envs = [e]) : (A.over c []).frames = some (e :: l) := by
  show pushEnvs c.envs (pushEnvs (envsOf ([] : List (Code × Pos))) A.frames) = _
  rw [h, hc]
  rfl
theorem over_handled0 {A : Around} {c : Code} : (A.over c []).handled = A.handled := rfl

/-- what the consumer may have done between -/
structure Evo (dom : List Addr) (ps' : List (Addr × Obj)) (s s'' : Shared) : Prop where
  os : s''.os = s.os
  bare : AllBare s''.gens
  gsz : s.gens.size ≤ s''.gens.size
  keep : ∀ b o, b ∉ dom → s.heap.get? b = some o → s''.heap.get? b = some o
  at_ : ∀ p ∈ ps', s''.heap.get? p.1 = some p.2
theorem Inv.evo {dom : List Addr} {p0 ps ps' : List (Addr × Obj)} {s'' : Shared} (I : Inv X (p0 ++ ps) σ H s) (hd : ps.map (·.1) = dom) (hd' : ps'.map (·.1) = dom) (hc : ∀ p ∈ ps', ∀ v, p.2.data ≠ .cell v) (e : Evo dom ps' s s'')
    (hap : ∀ b ∈ dom, X.s_0.heap.objs.size ≤ b ∧ ∀ x c, X.env.cells.lookup x = some c → c ≠ b) (hpn : X.pn = []) (h0 : ∀ p ∈ p0, p.1 ∉ dom) : Inv X (p0 ++ ps') σ H s'' := by
  obtain ⟨hh, g, d, t, o⟩ := s''
  have ho : o = s.os := e.os
  subst ho
  have pin : ∀ b ∈ dom, H b = none ∧ b ≠ X.env.locals ∧ b ∉ X.fs := fun b hb => by
    rw [← hd] at hb
    obtain ⟨p, hp, rfl⟩ := List.mem_map.mp hb
    obtain ⟨_, h2, h3, h4, _⟩ := I.pin p (List.mem_append_right _ (List.mem_append_right _ hp))
    exact ⟨h2, h3, h4⟩
  have nt : ∀ b u, H b = some u → b ∉ dom := fun b u q hb => by rw [(pin b hb).1] at q; cases q
  have I0 : Inv X p0 σ H s := I.pins_of fun p hp => I.pin p (List.mem_append_right _ (List.mem_append_left _ hp))
  have J : Inv X p0 σ H { s with heap := hh, gens := g, drawn := d, toks := t } := by
    refine I0.step (g' := g) (t' := t) (d' := d) (ch := dom) (fun b hb => ?_)
      (fun b ob _ _ hc q _ => e.keep b ob hc q) (fun b ob _ _ hc q _ => ⟨ob.slots, e.keep b ob hc q⟩) (fun _ _ _ _ n => n) (fun b ob hc q => ⟨ob, e.keep b ob hc q⟩)
      (fun _ _ q => q) (fun _ _ _ q => q) (fun b ps q => ⟨#[], by rw [q]; simp⟩) (fun m hm => ?_) (fun b u q => ?_) e.bare
    · obtain ⟨h1, h2⟩ := hap b hb
      refine ⟨.inr h1, (pin b hb).2.1, h2, fun p hp z => ?_⟩
      rw [hpn] at hp
      exact h0 p hp (by rw [z]; exact hb)
    · obtain ⟨ob, es, ep, ho, r⟩ := hm
      exact ⟨ob, es, ep, e.keep _ ob (fun z => (pin _ z).2.1 rfl) ho, r⟩
    · refine (I0.hok b u q).stay (fun c v hc y => e.keep c v ?_ y) (fun _ y => y) fun _ _ y => y
      rcases hc with y | y
      · rw [y]; exact nt b u q
      · exact nt c _ y
  refine J.pins_of fun p hp => ?_
  rcases List.mem_append.mp hp with hp | hp
  · exact J.pin p (List.mem_append_right _ hp)
  · have hb : p.1 ∈ dom := by rw [← hd']; exact List.mem_map.mpr ⟨p, hp, rfl⟩
    exact ⟨e.at_ p hp, (pin _ hb).1, (pin _ hb).2.1, (pin _ hb).2.2, hc p hp⟩
end
/-- a consumer's accumulator: the objects that hold it -/
structure AccK (α : Type) where
  dom : List Addr
  Pn : α → List (Addr × Obj) → Prop
  fst : ∀ a ps, Pn a ps → ps.map (·.1) = dom
  cell : ∀ a ps, Pn a ps → ∀ p ∈ ps, ∀ v, p.2.data ≠ .cell v
/-- the words of the loop of a generator expression; one turn after another -/
structure GWalk {α : Type} (J : It) (g : TG) (tt : TT) (te : TE) (vs : List Nat) (σw : L2.St) (Yw : α → V → Hp → (α → Hp → Prop) → Prop) (EndW : α → Hp → Prop) (W : Nat → Nat → α → Hp → Prop) : Prop where
  turn : ∀ i m acc H, W i m acc H → (J.stop i H ∧ EndW acc H) ∨ (J.go i H ∧ ∃ Nx : α → Hp → Prop, (∀ acc' H', Nx acc' H' → ∃ m', m' < m ∧ W (i + 1) m' acc' H') ∧
    ∀ x H', J.yld i H x H' → g x σw H' fun σ2 H2 => wipe σ2 vs = σw ∧ tt σ2 H2 fun b H3 => if b = true then te σ2 H3 fun y H4 => Yw acc y H4 Nx else Nx acc H3)
section
variable {α : Type} {X : Cx} {A2 : Around} {s4 : Shared} {H4 : Hp} {fp : List Addr} {it a : Addr} {go : Obj} {tn : Nat → Heap → Prop} {J : It} {tg elt iter : Expr} {ifs : List Expr} {scope : Scope} {pos : Pos} {C : Addr} {code : Value} {g : TG} {tt : TT} {te : TE} {vs : List Nat} {σw : L2.St}
  {Yw : α → V → Hp → (α → Hp → Prop) → Prop} {EndW : α → Hp → Prop} {W : Nat → Nat → α → Hp → Prop} {R : GenEnd} {Y : Protocol} {gn : Nat}
abbrev gCode (elt tg iter : Expr) (ifs : List Expr) (scope : Scope) (pos : Pos) (it : Addr) (genv : Env) : Code := .compLoop (.GeneratorExp elt [⟨tg, iter, ifs, 0⟩] scope pos) 0 (.ref it) .none genv
theorem gen_loop (Xg : Cx) (hXg : Xg = gCx X (A2.over (gCode elt tg iter ifs scope pos it (gEnv scope C code X.env)) []) s4 H4 (gEnv scope C code X.env) fp) (hcalm : X.calm = true)
    (T : Turn X.prog X.w X.K tg J fp it tn) (pg : PG Xg tg g) (pt : PTs Xg ifs tt) (pe : PE Xg elt te) (hw : wipe σw vs = σw) (ac : AccK α) (haf : a ∉ fp) (had : a ∉ ac.dom) (hfd : ∀ b ∈ fp, b ∉ ac.dom)
    (hap : ∀ b ∈ ac.dom, s4.heap.objs.size ≤ b ∧ ∀ x c, (gEnv scope C code X.env).cells.lookup x = some c → c ≠ b) (hco : scope.isCoroutine = false)
    (GW : GWalk J g tt te vs σw Yw EndW W)
    (hR : ∀ n s₀ acc H s σ' ps, ac.Pn acc ps → Inv Xg ((a, go) :: ps) σ' H s → (∀ p ∈ ps, s₀.heap.get? p.1 = some p.2) → gn < s.gens.size → EndW acc H → R n s₀ (.ok .next) s)
    (hY : ∀ n s₀ acc y v H s σ' ps Nx kap, ac.Pn acc ps → Inv Xg ((a, go) :: ps) σ' H s → (∀ p ∈ ps, s₀.heap.get? p.1 = some p.2) → gn < s.gens.size → RelV y v → Yw acc y H Nx → (∀ acc' ps' s'', Nx acc' H → ac.Pn acc' ps' → Evo ac.dom ps' s s'' → kap (.send .none) s'') → Y n s₀ v s kap) :
    ∀ (m n i : Nat) (acc : α) (H : Hp) (s₀ s : Shared) (ps : List (Addr × Obj)), m < n → W i m acc H → ac.Pn acc ps → Inv Xg ((a, go) :: ps) σw H s → (∀ p ∈ ps, s₀.heap.get? p.1 = some p.2) → tn i s.heap → (∀ b ∈ fp, H b = none) → gn < s.gens.size →
      Seg (model X.prog X.w) A2 R Y n s₀ (gCode elt tg iter ifs scope pos it (gEnv scope C code X.env)) ((model X.prog X.w).den (gCode elt tg iter ifs scope pos it (gEnv scope C code X.env))) [] s := by
  have hstat : ∀ {pins : List (Addr × Obj)} {σ' : L2.St} {H' : Hp} {s' : Shared}, Inv Xg pins σ' H' s' → (∀ p ∈ pins, p.1 ∉ fp) → (∀ b ∈ fp, H' b = none) → ∀ b ∈ fp, FpOk Xg pins H' b := by
    intro pins σ' H' s' I' hp hn b hb
    subst hXg
    exact ⟨hn b hb, (I'.ok.exf b hb).1, I'.ok.exfs b hb, .inl hb, fun x c e => (I'.ok.exf b hb).2 x c e, fun p hp' e => hp p (by simpa using hp') (by rw [e]; exact hb)⟩
  have hpins : ∀ acc ps, ac.Pn acc ps → ∀ p ∈ (a, go) :: ps, p.1 ∉ fp := fun acc ps hP p hp hb => by
    rcases List.mem_cons.mp hp with rfl | hp
    · exact haf hb
    · exact hfd _ hb (by rw [← ac.fst acc ps hP]; exact List.mem_map.mpr ⟨p, hp, rfl⟩)
  have hXA : Xg.A = A2.over (gCode elt tg iter ifs scope pos it (gEnv scope C code X.env)) [] := by rw [hXg]
  have hXe : Xg.env = gEnv scope C code X.env := by rw [hXg]
  have hXm : model Xg.prog Xg.w = model X.prog X.w := by rw [hXg]
  have hXx : Xg.xe = fun _ _ => False := by rw [hXg]
  intro m
  induction m using Nat.strongRecOn with
  | ind m ih =>
    intro n i acc H s₀ s ps hmn w hP I hz st nf hgn
    show Seg _ A2 _ _ _ s₀ _ ((compTurn (.GeneratorExp elt [⟨tg, iter, ifs, 0⟩] scope pos) 0 (.ref it) .none (gEnv scope C code X.env)).onRaise (leaving (gEnv scope C code X.env))) [] s
    rw [compTurn_gen, Sem.onRaise_eq_wrap]
    refine seg_bind_wrap (wpAny_standAt ?_)
    rcases GW.turn i m acc H w with ⟨stop, he⟩ | ⟨go', Nx, hNx, step⟩
    · have td := T.done Xg (by rw [hXg]) (by rw [hXg]) (by rw [hXg]) (by rw [hXg]; exact hcalm) i _ s σw H (fun _ _ => False) I (hstat I (hpins acc ps hP) nf) st stop
      rw [hXA] at td
      refine seg_bind_wrap (GenW.wpAny_gsz (n := gn + 1) hgn (thnF td fun r s1 ⟨hr, I1⟩ hg1 => ?_))
      subst hr
      exact seg_end (.ok .next) (hR n s₀ acc H s1 σw ps hP I1 hz hg1 he)
    · have ti := T.item Xg (by rw [hXg]) (by rw [hXg]) (by rw [hXg]) (by rw [hXg]; exact hcalm) i _ s σw H (fun _ _ => False) I (hstat I (hpins acc ps hP) nf) st go'
      rw [hXA] at ti
      refine seg_bind_wrap (GenW.wpAny_gsz (n := gn + 1) hgn (thnF ti fun r s1 ⟨u, hr, h1⟩ hg1 => ?_))
      subst hr
      refine seg_bind_wrap (GenW.wpAny_gsz (n := gn + 1) hg1 (thnF h1 fun _ s2 ⟨x, H2, I2, r2, y2, st2, n2⟩ hg2 => ?_))
      have I2' := I2.pinned (hstat I2 (hpins acc ps hP) n2) (T.obj _ _ st2)
      have q1 := pg.run _ s2 _ H2 x u _ I2' r2 (step x H2 y2)
      rw [hXm, hXA, hXe, hXx] at q1
      refine seg_bind_wrap (GenW.wpAny_gsz (n := gn + 1) hg2 (thnF q1 fun _ s3 ⟨σ3, H3, I3, hw3, q3⟩ hg3 => ?_))
      have q2 := pt.run _ s3 σ3 H3 _ I3 q3
      rw [hXm, hXA, hXe, hXx] at q2
      refine seg_bind_wrap (GenW.wpAny_gsz (n := gn + 1) hg3 (thnF q2 fun b s5 ⟨H5, I5, q5⟩ hg5 => ?_))
      have fin : ∀ {s' : Shared} {H' : Hp} {ps' : List (Addr × Obj)} {acc' : α}, Inv Xg (((a, go) :: ps') ++ pinsAt fp s2.heap) σ3 H' s' → Inv Xg ((a, go) :: ps') σw H' s' ∧ tn (i + 1) s'.heap ∧ ∀ b ∈ fp, H' b = none := fun {s' H' ps' acc'} I' => by
        have hl : σw.length = σ3.length := by rw [← hw3, wipe_length]
        have pin' : ∀ b ∈ fp, ∀ o, s2.heap.get? b = some o → s'.heap.get? b = some o ∧ H' b = none := fun b hb o e =>
          let z := I'.pin (b, o) (List.mem_append_right _ (List.mem_append_right _ (mem_pinsAt hb e)))
          ⟨z.1, z.2.1⟩
        refine ⟨(I'.unpinned).weak hl (fun j v e => ?_), T.keep _ _ _ st2 fun b hb o e => (pin' b hb o e).1, fun b hb => ?_⟩
        · rw [← hw3] at e
          exact (wipe_some e).1
        · obtain ⟨o, e, _⟩ := T.obj _ _ st2 b hb
          exact (pin' b hb o e).2
      cases b with
      | false =>
        simp only [Bool.false_eq_true, if_false] at q5 ⊢
        obtain ⟨m', hm, w'⟩ := hNx acc H5 q5
        obtain ⟨I6, st6, n6⟩ := fin (acc' := acc) I5
        exact seg_again rfl (ih m' hm n (i + 1) acc H5 s₀ s5 ps (by omega) w' hP I6 hz st6 n6 hg5)
      | true =>
        simp only [if_true] at q5 ⊢
        have hy : ∀ v, yieldOut (gEnv scope C code X.env) v = yieldValue v := fun v => by
          have : (gEnv scope C code X.env).scope.isCoroutine = false := hco
          simp only [yieldOut, this, Bool.false_eq_true, if_false]
        simp only [hy]
        rw [Sem.bind_eq_wrap', Sem.bind_eq_wrap', Sem.wrap_wrap, Sem.wrap_wrap]
        have q3' := pe.run _ s5 σ3 H5 _ I5 q5
        rw [hXm, hXA, hXe, hXx] at q3'
        refine seg_wrap (GenW.wpAny_gsz (n := gn + 1) hg5 (thnF q3' fun v s6 ⟨y, H6, I6, r6, yw⟩ hg6 => ?_))
        cases n with
        | zero => exact absurd hmn (Nat.not_lt_zero m)
        | succ n =>
          refine seg_at (seg_yield rfl rfl rfl (hY n s₀ acc y v H6 s6 σ3 ps Nx _ hP (I6.unpinned) hz hg6 r6 yw fun acc' ps' s'' nx hP' ev => ?_))
          obtain ⟨m', hm, w'⟩ := hNx acc' H6 nx
          obtain ⟨I7, st7, n7⟩ := fin (acc' := acc) I6
          have I8 : Inv Xg ([(a, go)] ++ ps') σw H6 s'' := Inv.evo (p0 := [(a, go)]) (ps := ps) I7 (ac.fst _ _ hP) (ac.fst _ _ hP') (ac.cell _ _ hP') ev (by rw [hXg]; exact hap) (by rw [hXg]) (fun p hp => by
            have : p = (a, go) := by simpa using hp
            rw [this]; exact had)
          exact seg_again rfl (ih m' hm n (i + 1) acc' H6 s'' s'' ps' (by omega) w' hP' I8 (fun p hp => ev.at_ p hp) (T.keep _ _ _ st7 fun b hb o e => ev.keep b o (hfd b hb) e) n7 (Nat.lt_of_lt_of_le hg6 ev.gsz))
end
end O
set_option maxRecDepth 100000
set_option maxHeartbeats 2000000
namespace O
open PySem PySem.Spec PyProof.Rows L2

section
variable {X : Cx} {pins : List (Addr × Obj)} {σ : L2.St} {H : Hp} {s : Shared}
theorem gen_start {A2 : Around} {R : GenEnd} {Y : Protocol} {n : Nat} {s₀ : Shared} {elt tg iter : Expr} {ifs : List Expr} {scope : Scope} {pos : Pos} {it : Addr} {genv : Env} {P : Program} {w : World} {K : PySem.W.Frag} {J : It} {fp : List Addr} {tn : Nat → Heap → Prop}
    (T : Turn P w K tg J fp it tn) (st : tn 0 s.heap)
    (h : Seg (model P w) A2 R Y n s₀ (gCode elt tg iter ifs scope pos it genv) ((model P w).den (gCode elt tg iter ifs scope pos it genv)) [] s) :
    Seg (model P w) A2 R Y n s₀ (.compStart (.GeneratorExp elt [⟨tg, iter, ifs, 0⟩] scope pos) 0 (.ref it) .none genv) ((model P w).den (.compStart (.GeneratorExp elt [⟨tg, iter, ifs, 0⟩] scope pos) 0 (.ref it) .none genv)) [] s := by
  show Seg _ A2 _ _ _ s₀ _ ((compStart (.GeneratorExp elt [⟨tg, iter, ifs, 0⟩] scope pos) 0 (.ref it) .none genv).onRaise (leaving genv)) [] s
  unfold compStart
  rw [Sem.onRaise_eq_wrap]
  show Seg _ A2 _ _ _ s₀ _ ((ask >>= _).wrap _ _ _ _) [] s
  refine seg_bind_wrap (wpAny_askSetting ?_)
  split
  · exact seg_again rfl h
  · first
      | exact seg_bind_wrap (wpAny_rule (seg_bind_wrap (wpAny_standAt (seg_bind_wrap (T.self _ 0 s _ _ st (seg_again rfl h))))))
      | (refine seg_bind_wrap (wpAny_rule ?_); show Seg _ A2 _ _ _ s₀ _ ((standAt iter.pos >>= _).wrap _ _ _ _) [] s; exact seg_bind_wrap (wpAny_standAt (seg_bind_wrap (T.self _ 0 s _ _ st (seg_again rfl h)))))
/-- a generator expression is made: nothing has run yet -/
def Made (X : Cx) (pins : List (Addr × Obj)) (σ : L2.St) (tg elt iter : Expr) (ifs : List Expr) (scope : Scope) (pos : Pos) (Rr : It → Hp → Prop) (v : Value) (s' : Shared) : Prop :=
  ∃ (s4 : Shared) (H2 : Hp) (it : Addr) (fp : List Addr) (tn : Nat → Heap → Prop) (J : It) (code : Value) (go : Obj) (h' : Heap) (tk : Nat) (m : Str → Option Value), v = .ref (s4.heap.objs.size + 1) ∧ Inv X pins σ H2 s4 ∧ Turn X.prog X.w X.K tg J fp it tn ∧ tn 0 s4.heap ∧
    (∀ b ∈ fp, FpOk X pins H2 b ∧ b < s4.heap.objs.size) ∧ Rr J H2 ∧
    s' = { s4 with heap := h', gens := s4.gens.push (.fresh (.compStart (.GeneratorExp elt [⟨tg, iter, ifs, 0⟩] scope pos) 0 (.ref it) .none (gEnv scope s4.heap.objs.size code X.env))), toks := tk } ∧
    h'.Ns s4.heap.objs.size m ∧ (∀ b o, s4.heap.get? b = some o → h'.get? b = some o) ∧ h'.get? (s4.heap.objs.size + 1) = some go ∧ (∀ hh : Heap, hh.get? (s4.heap.objs.size + 1) = some go → hh.IsGen (s4.heap.objs.size + 1) s4.gens.size) ∧ (∀ v, go.data ≠ .cell v) ∧ h'.objs.size = s4.heap.objs.size + 2
theorem gen_make {c P : Addr} {elt tg iter : Expr} {ifs : List Expr} {scope : Scope} {own : List (Str × Nat)} {gpos : Pos} {wi : TI} {k : Nat} {Rr : It → Hp → Prop}
    (hr : Room k X.A) (TB : GxR.TabB X.base X.mg c P) (hcode : X.env.code = .ref c) (ok : BlkOk X.N X.env.scope scope own) (hco : scope.isCoroutine = false) (hcell : ∀ y ∈ scope.names, y.2 ≠ .cell) (hdot : scope.names.lookup (".0" : Str) = some NameKind.local) (hi : PI X tg iter wi)
    (hs : ∀ v, genFold iter X.env v = pure v) (I : Inv X pins σ H s) (h : wi σ H fun J H1 => GxR.TabG H1 P ∧ ∀ H2, GxR.Tabbed P H1 H2 → Rr J H2) :
    wpAny (model X.prog X.w) X.A (eval (.GeneratorExp elt [⟨tg, iter, ifs, 0⟩] scope gpos) X.env) (Made X pins σ tg elt iter ifs scope gpos Rr) X.xe s := by
  have hfree : ∀ y ∈ scope.names, y.2 = .free → ∃ c, X.env.cells.lookup y.1 = some c := fun y hy e => by
    rcases ok.free y hy e with k | k
    · exact I.ok.has _ (.inl k)
    · exact I.ok.has _ (.inr k)
  refine wpAny_GeneratorExp_make hco (closure_ok hfree) hcell hdot ok.kind (by have := hr.dp; omega) ?_ hs
  refine thn (hi.run pins s σ H _ I h) fun xv s1 h1 => thn h1 fun itv s2 h2 => ?_
  obtain ⟨it, fp, tn, J, H1, e, I2, T, st2, f2, ⟨ps, hP, ht⟩, q⟩ := h2
  subst e
  have hPs : s2.heap.get? P = some { cls := .none, data := .fields ps } := I2.hok P _ hP
  have cd : PySem.W.CodeHd s2.heap c P := TB.code.keeps fun b u e => I2.bk b u e
  refine ⟨I2.nolimit, ?_⟩
  have szf : ∀ b ∈ fp, b < s2.heap.objs.size := fun b hb => by
    obtain ⟨o, e, _⟩ := T.obj _ _ st2 b hb
    exact Heap.lt_size e
  have cont : ∀ (code : Value) (h3 : Heap) (tk : Nat) (more : Array Value), (∀ b o, b ≠ P → s2.heap.get? b = some o → h3.get? b = some o) → s2.heap.objs.size ≤ h3.objs.size → h3.get? P = some { cls := .none, data := .fields (ps ++ more) } → TriplesOk (ps ++ more).toList →
      wpAny (model X.prog X.w) X.A (builtinsFor X.env.globals X.env.builtins) (fun bi s₄ =>
        ∀ h', h'.Ns s₄.heap.objs.size (fun y => if y = ".0" then some (.ref it) else none) → Heap.SameBut s₄.heap.objs.size (s₄.heap.push { cls := .type "frame", data := .dict #[] }) h' →
          Made X pins σ tg elt iter ifs scope gpos Rr (.ref h'.objs.size) { s₄ with
            gens := s₄.gens.push (.fresh (.compStart (.GeneratorExp elt [⟨tg, iter, ifs, 0⟩] scope gpos) 0 (.ref it) .none (genEnv scope (cloFrom X.env.cells scope.names []) s₄.heap.objs.size code bi X.env))),
            toks := s₄.toks + 1 + 1 + 1,
            heap := h'.push { cls := .type "generator", data := .fields #[.int s₄.gens.size 0, .str "<genexpr>" (s₄.toks + 1), .str (X.env.qual ++ "<genexpr>") (s₄.toks + 1 + 1)] } }) X.xe { s2 with heap := h3, toks := tk } := by
    intro code h3 tk more hx hsz hP3 ht3
    have I4 : Inv X pins σ (upd H1 P (.tbl (ps ++ more))) { s2 with heap := h3, gens := s2.gens, drawn := s2.drawn, toks := tk } := GxR.inv_tab I2 hP hx hP3 I2.bare
    obtain ⟨bm, ob, e1, e2, e3, e4, e5, e6, e7, e8⟩ := TB.bm
    refine wpAny_builtinsFor (m := X.mg) (by rw [I4.ok.glob]; exact I4.mod.glob.keeps I4.bk) e1 e2 (I4.bk _ _ e5) e6 e7 e8 ?_
    intro h' hn hsb
    have hsz' : h'.objs.size = h3.objs.size + 1 := by rw [hsb.1, Heap.size_push]
    have kp : ∀ b o, h3.get? b = some o → h'.get? b = some o := fun b o e => hsb.extBut b o (Nat.ne_of_lt (Heap.lt_size e)) (Heap.get?_push_of_some _ e)
    have nfP : ∀ b ∈ fp, b ≠ P := fun b hb e => by
      have := (f2 b hb).1
      rw [e, hP] at this
      cases this
    refine ⟨{ s2 with heap := h3, toks := tk }, upd H1 P (.tbl (ps ++ more)), it, fp, tn, J, code, { cls := .type "generator", data := .fields #[.int s2.gens.size 0, .str "<genexpr>" (tk + 1), .str (X.env.qual ++ "<genexpr>") (tk + 1 + 1)] }, _, tk + 1 + 1 + 1, _, by rw [hsz'], I4, T, T.keep _ _ _ st2 fun b hb o e => hx b o (nfP b hb) e, fun b hb => ⟨⟨?_, (f2 b hb).2⟩, Nat.lt_of_lt_of_le (szf b hb) hsz⟩, q _ ⟨⟨_, upd_same, ht3⟩, fun b hb => upd_ne hb⟩, rfl, hn.push _, fun b o e => Heap.get?_push_of_some _ (kp b o e), ?_, fun hh e => ⟨_, _, _, e, rfl, rfl, rfl⟩, fun v z => (by cases z), by rw [Heap.size_push, hsz']⟩
    · rw [upd_ne (nfP b hb)]
      exact (f2 b hb).1
    · have := Heap.get?_push_size h' (o := { cls := .type "generator", data := .fields #[.int s2.gens.size 0, .str "<genexpr>" (tk + 1), .str (X.env.qual ++ "<genexpr>") (tk + 1 + 1)] }) rfl
      rw [hsz'] at this
      exact this
  cases hf : codeAmong gpos ps.toList with
  | none =>
    refine wpAny_genexprCodeX hcode (cd.code hPs ht) (cd.tab hPs) hf fun c' h' tk hx hge hlt hco' _ htab' _ => ?_
    obtain ⟨o1, vs, f1, tf, fl, tg', inF, tx, tt, op, _, _, _, _, _, _, _, _, _, htr, _⟩ := hco'
    exact cont _ h' tk _ hx (Nat.le_trans hge (Nat.le_of_lt hlt)) htab'.2 htr
  | some cv =>
    refine wpAny_genexprCode_hit hcode (cd.code hPs ht) hf ?_
    exact cont cv s2.heap s2.toks #[] (fun b o _ e => e) (Nat.le_refl _) (by simpa using hPs) (by simpa using ht)
theorem Inv.gensTo {g' : Array GenState} {h' : Heap} (I : Inv X pins σ H s) (hg : AllBare g') (k : ∀ b u, s.heap.get? b = some u → h'.get? b = some u) : Inv X pins σ H { s with heap := h', gens := g' } :=
  (⟨I.ok, I.os, hg, I.base, I.loc, I.cell, I.free, I.freeC, I.pin, I.hok, I.len⟩ : Inv X pins σ H { s with gens := g' }).kept (t' := s.toks) k
theorem AllBare.setGen {s : Shared} {g : Nat} {x : GenState} (h : AllBare s.gens) (hx : x.bare = true) : AllBare (s.setGen g x).gens := fun y hy => by
  have hy : y ∈ s.gens.setIfInBounds g x := hy
  rcases Array.mem_or_eq_of_mem_setIfInBounds hy with z | z
  · exact h y z
  · rw [z]; exact hx
/-- the room of a generator expression's frame -/
theorem room_gen {k : Nat} {A : Around} {elt tg iter : Expr} {ifs : List Expr} {scope : Scope} {pos : Pos} {it : Addr} {genv : Env} (r : Room (k + 1) A) : Room k ((A.in1.in1).over (gCode elt tg iter ifs scope pos it genv) []) :=
  ⟨r.hd, by have := r.dp; show A.depth + 0 + 1 + 3 * k + 5 < _; omega, by have := r.un; show A.units + 1 + 1 + 0 + 3 + 16 * k + 200 < _; omega⟩

/-! ### the loops of all and any -/
section
variable {prog : Program} {w : World} {A : Around} {a : Addr} {g : Nat} {Fin : Bool → Shared → Prop}
/-- what a made item asks: it stops at b = st -/
def YBool (a : Addr) (g : Nat) (st : Bool) (Fin : Bool → Shared → Prop) : Protocol := fun n s₀ v s kap => ∃ b, v = .bool b ∧ s.heap.IsGen a g ∧ s.heap.NoLimit ∧ g < s.gens.size ∧ AllBare s.gens ∧
  (b = st → ∀ gs' : GenState, gs'.bare = true → Fin st (s.setGen g gs')) ∧ (b ≠ st → ∀ s'', Evo [] [] s s'' → kap (.send .none) s'')
def PEnd (g : Nat) (Fin : Shared → Prop) : Nat → Shared → Shared → Prop := fun n s₀ s => ∀ h', (∀ b o, s.heap.get? b = some o → h'.get? b = some o) → Fin { s.setGen g .finished with heap := h' }
theorem setGen_get {s : Shared} {g : Nat} {x : GenState} (h : g < s.gens.size) : (s.setGen g x).gens[g]? = some x := by simp [Shared.setGen, h]
theorem all_loop_gen (hh : A.handled = none) (hroom : A.in1.depth < recursionLimit) : ∀ (n : Nat) (gs : GenState) (s : Shared), s.heap.IsGen a g → s.heap.NoLimit → s.gens[g]? = some gs →
    gs.Goes (model prog w) A.in1.in1 (fun n s₀ r s₁ => r = .ok .next ∧ PEnd g (Fin true) n s₀ s₁) (YBool a g false Fin) n (.send .none) (s.setGen g .running) →
    codeAny (model prog w) A (.builtin "all.loop" ⟨[.ref a], []⟩) (fun r s' => ∃ b, r = .ok (.ret (.bool b)) ∧ Fin b s') s := by
  intro n
  induction n with
  | zero =>
    intro gs s hg hl hgs hgo
    refine codeAny_builtin F.entry_all_loop ?_
    rw [Around.under_plainId F.plain_all_loop _]
    show wpAny _ A.in1 (pyNext (.ref a) >>= _) _ _ s
    refine wpAny_bind (wpAny_pyNext_genexpQ (A := A.in1) hh hl hroom hg hgs hgo (fun v s₁ gs' hb hv => ?_) (fun s₁ hp h' hk => ?_))
    · obtain ⟨b, rfl, h1, h2, h3, h4, h5, h6⟩ := hv
      refine wpAny_bind (wpAny_holding (wpAny_truthy_bool ?_))
      refine wpAny_bind (wpAny_letGo ?_)
      cases b with
      | false =>
        simp only [Bool.false_eq_true, if_false]
        exact wpAny_bind (wpAny_rule (wpAny_pure ⟨false, rfl, h5 rfl gs' hb⟩))
      | true => exact absurd (h6 (by decide) s₁ ⟨rfl, h4, Nat.le_refl _, fun _ _ _ e => e, fun _ h => by simp at h⟩) (by exact id)
    · exact wpAny_bind (wpAny_rule (wpAny_pure ⟨true, rfl, hp h' hk⟩))
  | succ n ih =>
    intro gs s hg hl hgs hgo
    refine codeAny_builtin F.entry_all_loop ?_
    rw [Around.under_plainId F.plain_all_loop _]
    show wpAny _ A.in1 (pyNext (.ref a) >>= _) _ _ s
    refine wpAny_bind (wpAny_pyNext_genexpQ (A := A.in1) hh hl hroom hg hgs hgo (fun v s₁ gs' hb hv => ?_) (fun s₁ hp h' hk => ?_))
    · obtain ⟨b, rfl, h1, h2, h3, h4, h5, h6⟩ := hv
      refine wpAny_bind (wpAny_holding (wpAny_truthy_bool ?_))
      refine wpAny_bind (wpAny_letGo ?_)
      cases b with
      | false =>
        simp only [Bool.false_eq_true, if_false]
        exact wpAny_bind (wpAny_rule (wpAny_pure ⟨false, rfl, h5 rfl gs' hb⟩))
      | true =>
        simp only [if_true]
        refine wpAny_pure ⟨plainId_quiet F.plain_all_loop _, ih gs' _ h1 h2 (setGen_get h3) (h6 (by decide) _ ⟨rfl, AllBare.setGen (AllBare.setGen h4 hb) rfl, by simp [Shared.setGen], fun _ _ _ e => e, fun _ h => by simp at h⟩)⟩
    · exact wpAny_bind (wpAny_rule (wpAny_pure ⟨true, rfl, hp h' hk⟩))
theorem any_loop_gen (hh : A.handled = none) (hroom : A.in1.depth < recursionLimit) : ∀ (n : Nat) (gs : GenState) (s : Shared), s.heap.IsGen a g → s.heap.NoLimit → s.gens[g]? = some gs →
    gs.Goes (model prog w) A.in1.in1 (fun n s₀ r s₁ => r = .ok .next ∧ PEnd g (Fin false) n s₀ s₁) (YBool a g true Fin) n (.send .none) (s.setGen g .running) →
    codeAny (model prog w) A (.builtin "any.loop" ⟨[.ref a], []⟩) (fun r s' => ∃ b, r = .ok (.ret (.bool b)) ∧ Fin b s') s := by
  intro n
  induction n with
  | zero =>
    intro gs s hg hl hgs hgo
    refine codeAny_builtin F.entry_any_loop ?_
    rw [Around.under_plainId F.plain_any_loop _]
    show wpAny _ A.in1 (pyNext (.ref a) >>= _) _ _ s
    refine wpAny_bind (wpAny_pyNext_genexpQ (A := A.in1) hh hl hroom hg hgs hgo (fun v s₁ gs' hb hv => ?_) (fun s₁ hp h' hk => ?_))
    · obtain ⟨b, rfl, h1, h2, h3, h4, h5, h6⟩ := hv
      refine wpAny_bind (wpAny_holding (wpAny_truthy_bool ?_))
      refine wpAny_bind (wpAny_letGo ?_)
      cases b with
      | true =>
        simp only [if_true]
        exact wpAny_bind (wpAny_rule (wpAny_pure ⟨true, rfl, h5 rfl gs' hb⟩))
      | false => exact absurd (h6 (by decide) s₁ ⟨rfl, h4, Nat.le_refl _, fun _ _ _ e => e, fun _ h => by simp at h⟩) (by exact id)
    · exact wpAny_bind (wpAny_rule (wpAny_pure ⟨false, rfl, hp h' hk⟩))
  | succ n ih =>
    intro gs s hg hl hgs hgo
    refine codeAny_builtin F.entry_any_loop ?_
    rw [Around.under_plainId F.plain_any_loop _]
    show wpAny _ A.in1 (pyNext (.ref a) >>= _) _ _ s
    refine wpAny_bind (wpAny_pyNext_genexpQ (A := A.in1) hh hl hroom hg hgs hgo (fun v s₁ gs' hb hv => ?_) (fun s₁ hp h' hk => ?_))
    · obtain ⟨b, rfl, h1, h2, h3, h4, h5, h6⟩ := hv
      refine wpAny_bind (wpAny_holding (wpAny_truthy_bool ?_))
      refine wpAny_bind (wpAny_letGo ?_)
      cases b with
      | true =>
        simp only [if_true]
        exact wpAny_bind (wpAny_rule (wpAny_pure ⟨true, rfl, h5 rfl gs' hb⟩))
      | false =>
        simp only [Bool.false_eq_true, if_false]
        refine wpAny_pure ⟨plainId_quiet F.plain_any_loop _, ih gs' _ h1 h2 (setGen_get h3) (h6 (by decide) _ ⟨rfl, AllBare.setGen (AllBare.setGen h4 hb) rfl, by simp [Shared.setGen], fun _ _ _ e => e, fun _ h => by simp at h⟩)⟩
    · exact wpAny_bind (wpAny_rule (wpAny_pure ⟨false, rfl, hp h' hk⟩))
end
end
end O
set_option maxRecDepth 100000
set_option maxHeartbeats 2000000
namespace O
open PySem PySem.Spec PyProof.Rows L2

def YwB (st : Bool) (Q : VK) : Unit → V → Hp → (Unit → Hp → Prop) → Prop := fun _ y H Nx => ∃ b, y = .bl b ∧ ((b = st ∧ Q (.bl st) H) ∨ (b ≠ st ∧ Nx () H))
/-- all(..) (st false), any(..) (st true) of a generator expression -/
def tBG (st : Bool) (P : Addr) (wi : TI) (g : TG) (tt : TT) (te : TE) (vs : List Nat) : TE := fun σ H Q => wi σ H fun J H1 => GxR.TabG H1 P ∧ ∀ H2, GxR.Tabbed P H1 H2 → ∃ W : Nat → Nat → Unit → Hp → Prop, (∃ m, W 0 m () H2) ∧ GWalk J g tt te vs (wipe σ vs) (YwB st Q) (fun _ H => Q (.bl (!st)) H) W
abbrev accU : AccK Unit := ⟨[], fun _ ps => ps = [], fun _ _ h => by rw [h]; rfl, fun _ _ h p hp => by rw [h] at hp; simp at hp⟩
section
variable {X : Cx} {pins : List (Addr × Obj)} {σ : L2.St} {H : Hp} {s : Shared}
theorem wipe_wipe {σ : L2.St} {vs : List Nat} : wipe (wipe σ vs) vs = wipe σ vs := by
  refine List.ext_getElem? fun i => ?_
  by_cases hi : i < σ.length
  · by_cases hv : i ∈ vs
    · rw [wipe_in hv (by rw [wipe_length]; exact hi), wipe_in hv hi]
    · rw [wipe_out hv]
  · rw [List.getElem?_eq_none (by rw [wipe_length, wipe_length]; omega), List.getElem?_eq_none (by rw [wipe_length]; omega)]
/-- the made generator goes, for a consumer of bools -/
theorem gen_goes {P : Addr} {st : Bool} {elt tg iter : Expr} {ifs : List Expr} {scope : Scope} {own : List (Str × Nat)} {gpos : Pos} {g : TG} {tt : TT} {te : TE} {k : Nat} {Q : VK} {v : Value} {s' : Shared}
    (hr : Room (k + 1) X.A) (hcalm : X.calm = true) (ok : BlkOk X.N X.env.scope scope own) (hN : X.N.Nodup) (hco : scope.isCoroutine = false) (hcell : ∀ y ∈ scope.names, y.2 ≠ .cell)
    (hgd : ∀ (s : Shared) (H : Hp) (C : Addr) (code : Value) (fp : List Addr) (it : Addr), Room k (X.A.in1.in1.over (gCode elt tg iter ifs scope gpos it (gEnv scope C code X.env)) []) → PG (gCx X (X.A.in1.in1.over (gCode elt tg iter ifs scope gpos it (gEnv scope C code X.env)) []) s H (gEnv scope C code X.env) fp) tg g)
    (htd : ∀ (s : Shared) (H : Hp) (C : Addr) (code : Value) (fp : List Addr) (it : Addr), Room k (X.A.in1.in1.over (gCode elt tg iter ifs scope gpos it (gEnv scope C code X.env)) []) → PTs (gCx X (X.A.in1.in1.over (gCode elt tg iter ifs scope gpos it (gEnv scope C code X.env)) []) s H (gEnv scope C code X.env) fp) ifs tt)
    (hed : ∀ (s : Shared) (H : Hp) (C : Addr) (code : Value) (fp : List Addr) (it : Addr), Room k (X.A.in1.in1.over (gCode elt tg iter ifs scope gpos it (gEnv scope C code X.env)) []) → PE (gCx X (X.A.in1.in1.over (gCode elt tg iter ifs scope gpos it (gEnv scope C code X.env)) []) s H (gEnv scope C code X.env) fp) elt te)
    (hm : Made X pins σ tg elt iter ifs scope gpos (fun J H2 => ∃ W : Nat → Nat → Unit → Hp → Prop, (∃ m, W 0 m () H2) ∧ GWalk J g tt te (own.map (·.2)) (wipe σ (own.map (·.2))) (YwB st Q) (fun _ H => Q (.bl (!st)) H) W) v s') :
    ∃ (a : Addr) (gn n : Nat) (gs : GenState), v = .ref a ∧ s'.heap.IsGen a gn ∧ s'.heap.NoLimit ∧ s'.gens[gn]? = some gs ∧
      gs.Goes (model X.prog X.w) X.A.in1.in1 (fun n s₀ r s₁ => r = .ok .next ∧ PEnd gn (fun s => EP X pins σ Q (.bool !st) s) n s₀ s₁) (YBool a gn st (fun b s => EP X pins σ Q (.bool b) s)) n (.send .none) (s'.setGen gn .running) := by
  obtain ⟨s4, H2, it, fp, tn, J, code, go, h', tk, m, rfl, I4, T, st4, f4, ⟨W, ⟨m0, w0⟩, GW⟩, rfl, hn, kp, hgo, hgen, hgc, hsz⟩ := hm
  have hA : (X.A.in1.in1.over (gCode elt tg iter ifs scope gpos it (gEnv scope s4.heap.objs.size code X.env)) []).handled = none := hr.hd
  have hF : (X.A.in1.in1.over (gCode elt tg iter ifs scope gpos it (gEnv scope s4.heap.objs.size code X.env)) []).frames = some (gEnv scope s4.heap.objs.size code X.env :: X.stack) := over_frames (show X.A.in1.in1.frames = some X.stack from I4.ok.frames) rfl
  have Ig := gen_inv (fp := fp) (code := code) (gs := .fresh (.compStart (.GeneratorExp elt [⟨tg, iter, ifs, 0⟩] scope gpos) 0 (.ref it) .none (gEnv scope s4.heap.objs.size code X.env))) (tk := tk) I4 ok hN hcell f4 hA hF hn kp hgo (Nat.lt_succ_self _) hgc rfl
  have hroom := room_gen (elt := elt) (tg := tg) (iter := iter) (ifs := ifs) (scope := scope) (pos := gpos) (it := it) (genv := gEnv scope s4.heap.objs.size code X.env) hr
  have back : ∀ {H3 : Hp} {s3 : Shared} {σ3 : L2.St} {ps : List (Addr × Obj)} {gs' : GenState} {h3 : Heap}, Inv (gCx X (X.A.in1.in1.over (gCode elt tg iter ifs scope gpos it (gEnv scope s4.heap.objs.size code X.env)) []) s4 H2 (gEnv scope s4.heap.objs.size code X.env) fp) ps σ3 H3 s3 → gs'.bare = true → (∀ b o, s3.heap.get? b = some o → h3.get? b = some o) → Inv X pins σ H3 { s3.setGen s4.gens.size gs' with heap := h3 } := fun {H3 s3 σ3 ps gs' h3} I hb hk => by
    have J : Inv X pins σ H3 s3 := I4.call' (ch := fp) I.os I.base I.hok I.bare fun b hb => ⟨(f4 b hb).1.2.2.2.1, (f4 b hb).1.2.1, (f4 b hb).1.2.2.2.2.1, (f4 b hb).1.2.2.2.2.2⟩
    have z := Inv.gensTo (g' := (s3.setGen s4.gens.size gs').gens) (h' := h3) J (AllBare.setGen J.bare hb) hk
    exact z
  refine ⟨s4.heap.objs.size + 1, s4.gens.size, m0 + 1, .fresh (.compStart (.GeneratorExp elt [⟨tg, iter, ifs, 0⟩] scope gpos) 0 (.ref it) .none (gEnv scope s4.heap.objs.size code X.env)), rfl, hgen _ hgo, I4.nolimit.keeps kp, by simp, rfl, ?_⟩
  have Ig2 := Inv.gensTo (g' := (({ s4 with heap := h', gens := s4.gens.push (.fresh (.compStart (.GeneratorExp elt [⟨tg, iter, ifs, 0⟩] scope gpos) 0 (.ref it) .none (gEnv scope s4.heap.objs.size code X.env))), toks := tk } : Shared).setGen s4.gens.size .running).gens) (h' := h') Ig (AllBare.setGen Ig.bare rfl) (fun _ _ e => e)
  have st5 : tn 0 h' := T.keep _ _ _ st4 fun b _ o e => kp b o e
  refine gen_start T st5 ?_
  refine gen_loop (X := X) (gn := s4.gens.size) (a := s4.heap.objs.size + 1) (go := go) (EndW := fun _ H => Q (.bl (!st)) H) _ rfl hcalm T (hgd _ _ _ _ _ _ hroom) (htd _ _ _ _ _ _ hroom) (hed _ _ _ _ _ _ hroom) wipe_wipe accU (fun hb => ?_) (by simp) (fun _ _ => by simp) (fun b hb => by simp at hb) hco GW ?_ ?_ m0 (m0 + 1) 0 () H2 _ _ [] (Nat.lt_succ_self _) w0 rfl Ig2 (fun _ h => by simp at h) st5 (fun b hb => (f4 b hb).1.1) (by simp [Shared.setGen])
  · exact absurd (f4 _ hb).2 (Nat.not_lt.mpr (Nat.le_succ _))
  · intro n s₀ acc H3 s3 σ3 ps hP I hz hg3 he
    exact ⟨rfl, fun h3 hk => ⟨.bl _, H3, back I rfl hk, rfl, he⟩⟩
  · intro n s₀ acc y v H3 s3 σ3 ps Nx kap hP I hz hg3 rv yw hk
    obtain ⟨b, rfl, yw⟩ := yw
    cases rv
    have pa := I.pin (s4.heap.objs.size + 1, go) (List.mem_append_right _ List.mem_cons_self)
    refine ⟨b, rfl, hgen _ pa.1, I.nolimit, hg3, I.bare, fun eb gs' hb => ?_, fun nb s'' ev => ?_⟩
    · rcases yw with ⟨_, q⟩ | ⟨nb, _⟩
      · exact ⟨.bl _, H3, back I hb (fun _ _ e => e), rfl, q⟩
      · exact absurd eb nb
    · rcases yw with ⟨eb, _⟩ | ⟨_, q⟩
      · exact absurd eb nb
      · exact hk () [] s'' q rfl ev
section
variable {c P : Addr} {elt tg iter : Expr} {ifs : List Expr} {scope : Scope} {own : List (Str × Nat)} {gpos p pos : Pos} {wi : TI} {g : TG} {tt : TT} {te : TE} {k : Nat}
theorem pe_allG (hr : Room (k + 1) X.A) (hcalm : X.calm = true) (hgl : Gl X "all") (hm : X.mg "all" = none) (hb : bootBuiltins "all" = some (.builtin "all")) (TB : GxR.TabB X.base X.mg c P) (hcode : X.env.code = .ref c) (ok : BlkOk X.N X.env.scope scope own) (hN : X.N.Nodup) (hi : PI X tg iter wi)
    (hgd : ∀ (s : Shared) (H : Hp) (C : Addr) (code : Value) (fp : List Addr) (it : Addr), Room k (X.A.in1.in1.over (gCode elt tg iter ifs scope gpos it (gEnv scope C code X.env)) []) → PG (gCx X (X.A.in1.in1.over (gCode elt tg iter ifs scope gpos it (gEnv scope C code X.env)) []) s H (gEnv scope C code X.env) fp) tg g)
    (htd : ∀ (s : Shared) (H : Hp) (C : Addr) (code : Value) (fp : List Addr) (it : Addr), Room k (X.A.in1.in1.over (gCode elt tg iter ifs scope gpos it (gEnv scope C code X.env)) []) → PTs (gCx X (X.A.in1.in1.over (gCode elt tg iter ifs scope gpos it (gEnv scope C code X.env)) []) s H (gEnv scope C code X.env) fp) ifs tt)
    (hed : ∀ (s : Shared) (H : Hp) (C : Addr) (code : Value) (fp : List Addr) (it : Addr), Room k (X.A.in1.in1.over (gCode elt tg iter ifs scope gpos it (gEnv scope C code X.env)) []) → PE (gCx X (X.A.in1.in1.over (gCode elt tg iter ifs scope gpos it (gEnv scope C code X.env)) []) s H (gEnv scope C code X.env) fp) elt te)
    (hco : scope.isCoroutine = false := by rfl) (hcell : ∀ y ∈ scope.names, y.2 ≠ .cell := by decide +kernel) (hdot : scope.names.lookup (".0" : Str) = some NameKind.local := by decide +kernel)
    (hs : ∀ v, genFold iter X.env v = pure v := by intro _; rfl) (he : starEach [.GeneratorExp elt [⟨tg, iter, ifs, 0⟩] scope gpos] X.env = (false, eval (.GeneratorExp elt [⟨tg, iter, ifs, 0⟩] scope gpos) X.env) :: starEach [] X.env := by rfl) :
    PE X (.Call (.Name "all" p) [.GeneratorExp elt [⟨tg, iter, ifs, 0⟩] scope gpos] [] pos) (tBG false P wi g tt te (own.map (·.2))) := by
  refine ⟨fun pins s σ H Q I h => ?_⟩
  refine wpAny_Call_Name_kw (ld_blt I hgl hm hb ?_)
  refine PyProof.Rows.callWith_builtin1 ?_ he (by rfl)
  rw [he]
  show wpAny _ _ (spliced ((false, eval (.GeneratorExp elt [⟨tg, iter, ifs, 0⟩] scope gpos) X.env) :: backTo pos (starEach [] X.env))) _ _ s
  refine Calls.spliced_cons (wpAny_mono (gen_make hr TB hcode ok hco hcell hdot hi hs I h) (fun v s' hm => ?_) fun _ _ e => e)
  refine Calls.spliced_nil ?_
  obtain ⟨a, gn, n, gs, rfl, hg, hl, hgs, hgo⟩ := gen_goes (P := P) hr hcalm ok hN hco hcell hgd htd hed hm
  refine call_function_tree F.kind_all F.plain_all F.entry_all (F.args_all1 _) ?_
  unfold Builtin.«all»
  refine wpAny_bind (m := oneArg "all" _) (wpAny_pure ?_)
  refine wpAny_bind (wpAny_pyIter_gen hg ?_)
  refine wpAny_pure ⟨plainId_quiet F.plain_all_loop _, codeAny_mono (all_loop_gen (A := X.A) (Fin := fun b s => EP X pins σ Q (Value.bool b) s) hr.hd (by show X.A.depth + 0 < _; have := hr.dp; omega) n gs s' hg hl hgs hgo) fun r s2 hq => ?_⟩
  obtain ⟨b, rfl, q⟩ := hq
  exact q
theorem pe_anyG (hr : Room (k + 1) X.A) (hcalm : X.calm = true) (hgl : Gl X "any") (hm : X.mg "any" = none) (hb : bootBuiltins "any" = some (.builtin "any")) (TB : GxR.TabB X.base X.mg c P) (hcode : X.env.code = .ref c) (ok : BlkOk X.N X.env.scope scope own) (hN : X.N.Nodup) (hi : PI X tg iter wi)
    (hgd : ∀ (s : Shared) (H : Hp) (C : Addr) (code : Value) (fp : List Addr) (it : Addr), Room k (X.A.in1.in1.over (gCode elt tg iter ifs scope gpos it (gEnv scope C code X.env)) []) → PG (gCx X (X.A.in1.in1.over (gCode elt tg iter ifs scope gpos it (gEnv scope C code X.env)) []) s H (gEnv scope C code X.env) fp) tg g)
    (htd : ∀ (s : Shared) (H : Hp) (C : Addr) (code : Value) (fp : List Addr) (it : Addr), Room k (X.A.in1.in1.over (gCode elt tg iter ifs scope gpos it (gEnv scope C code X.env)) []) → PTs (gCx X (X.A.in1.in1.over (gCode elt tg iter ifs scope gpos it (gEnv scope C code X.env)) []) s H (gEnv scope C code X.env) fp) ifs tt)
    (hed : ∀ (s : Shared) (H : Hp) (C : Addr) (code : Value) (fp : List Addr) (it : Addr), Room k (X.A.in1.in1.over (gCode elt tg iter ifs scope gpos it (gEnv scope C code X.env)) []) → PE (gCx X (X.A.in1.in1.over (gCode elt tg iter ifs scope gpos it (gEnv scope C code X.env)) []) s H (gEnv scope C code X.env) fp) elt te)
    (hco : scope.isCoroutine = false := by rfl) (hcell : ∀ y ∈ scope.names, y.2 ≠ .cell := by decide +kernel) (hdot : scope.names.lookup (".0" : Str) = some NameKind.local := by decide +kernel)
    (hs : ∀ v, genFold iter X.env v = pure v := by intro _; rfl) (he : starEach [.GeneratorExp elt [⟨tg, iter, ifs, 0⟩] scope gpos] X.env = (false, eval (.GeneratorExp elt [⟨tg, iter, ifs, 0⟩] scope gpos) X.env) :: starEach [] X.env := by rfl) :
    PE X (.Call (.Name "any" p) [.GeneratorExp elt [⟨tg, iter, ifs, 0⟩] scope gpos] [] pos) (tBG true P wi g tt te (own.map (·.2))) := by
  refine ⟨fun pins s σ H Q I h => ?_⟩
  refine wpAny_Call_Name_kw (ld_blt I hgl hm hb ?_)
  refine PyProof.Rows.callWith_builtin1 ?_ he (by rfl)
  rw [he]
  show wpAny _ _ (spliced ((false, eval (.GeneratorExp elt [⟨tg, iter, ifs, 0⟩] scope gpos) X.env) :: backTo pos (starEach [] X.env))) _ _ s
  refine Calls.spliced_cons (wpAny_mono (gen_make hr TB hcode ok hco hcell hdot hi hs I h) (fun v s' hm => ?_) fun _ _ e => e)
  refine Calls.spliced_nil ?_
  obtain ⟨a, gn, n, gs, rfl, hg, hl, hgs, hgo⟩ := gen_goes (P := P) hr hcalm ok hN hco hcell hgd htd hed hm
  refine call_function_tree F.kind_any F.plain_any F.entry_any (F.args_any1 _) ?_
  unfold Builtin.«any»
  refine wpAny_bind (m := oneArg "any" _) (wpAny_pure ?_)
  refine wpAny_bind (wpAny_pyIter_gen hg ?_)
  refine wpAny_pure ⟨plainId_quiet F.plain_any_loop _, codeAny_mono (any_loop_gen (A := X.A) (Fin := fun b s => EP X pins σ Q (Value.bool b) s) hr.hd (by show X.A.depth + 0 < _; have := hr.dp; omega) n gs s' hg hl hgs hgo) fun r s2 hq => ?_⟩
  obtain ⟨b, rfl, q⟩ := hq
  exact q
end
end
/-! ### on data -/
section
variable {c : Gh}
theorem Rel.tabbed {G H1 H2 : Hp} {L : List T3} {P : Addr} (r : Rel c G H1 L) (hP : GxR.TabG H1 P) (t : GxR.Tabbed P H1 H2) : Rel c G H2 L := by
  obtain ⟨ps, e1, _⟩ := hP
  have np : ∀ a o, un G c.B a = some o → a ≠ P := fun a o e z => by
    have h1 := r.pu a o e
    have h2 := (r.sub.of_un r.subB) a o e
    rw [z, e1] at h2
    cases h2
    exact h1
  have nG : ∀ a o, G a = some o → a ≠ P := fun a o e => np a o (Sub.un_l G c.B a o e)
  have nB : ∀ a o, c.B a = some o → a ≠ P := fun a o e z => by
    cases q : G a with
    | none => exact np a o (by unfold un; rw [q]; exact e) z
    | some u => exact nG a u q z
  obtain ⟨F, h, n, q⟩ := r.own
  refine ⟨fun a o e => by rw [t.2 a (nG a o e)]; exact r.sub a o e, fun a o e => by rw [t.2 a (nB a o e)]; exact r.subB a o e, r.pu, fun P' hP' => ?_, F, Reps.keep (fun a ha => ?_) h, n, q⟩
  · by_cases z : P' = P
    · rw [z]; exact t.1
    · obtain ⟨ps', e, z'⟩ := r.tab P' hP'
      exact ⟨ps', by rw [t.2 P' z]; exact e, z'⟩
  · refine t.2 a fun z => ?_
    obtain ⟨xs, e⟩ := h.some a ha
    rw [z, e1] at e
    cases e
def gbD (st : Bool) (vs : List Nat) (g : FG) (tt : FT) (te : FE) : List D → SS → M (Bool × SS)
  | [], S => .ok (!st, S)
  | d :: ds, S => do
    let S1 ← g (.sh, d) S
    let (b, S2) ← tt S1
    if b then do
      let (r, S3) ← te S2
      match r.2 with
      | .bool b' => if b' = st then pure (st, wipeS vs S3) else gbD st vs g tt te ds (wipeS vs S3)
      | _ => stk
    else gbD st vs g tt te ds (wipeS vs S2)
def fGB (st : Bool) (n : Nat) (vs : List Nat) (fi : FI) (g : FG) (tt : FT) (te : FE) : FE := fun S => do
  let (ds, S1) ← fi S
  if S1.length = n then do
    let (b, S2) ← gbD st vs g tt te ds (wipeS vs S1)
    pure ((.sh, .bool b), mrg (inP vs) 0 S1 S2)
  else stk
theorem gb_read {st : Bool} {P : Addr} {n : Nat} {vs : List Nat} {fi : FI} {g : FG} {tt : FT} {te : FE} {σ : L2.St} {H : Hp} {Q : VK} (hP : P ∈ c.T) (h : tE c (fGB st n vs fi g tt te) σ H Q) : tBG st P (tId c fi) (tGd c (outP n vs) g) (tT c tt) (tE c te) vs σ H Q := by
  obtain ⟨G, S, R, ok, r, S', e, k⟩ := h
  obtain ⟨⟨ds, S1⟩, e1, e⟩ := bind_ok e
  by_cases hn : S1.length = n
  · dsimp only at e
    rw [if_pos hn] at e
    obtain ⟨⟨bf, S2f⟩, e2, e⟩ := bind_ok e
    cases e
    refine ⟨G, S, R, ok, ds, S1, e1, fun J G1 H1 s1 ok1 w => ⟨ok1.rel.tab P hP, fun H2 tb => ?_⟩⟩
    have ok2 : SOk c G1 H2 σ S1 R := ⟨ok1.cov, ok1.rel.tabbed (ok1.rel.tab P hP) tb⟩
    have hσ : σ.length = n := by rw [← ok1.cov.len]; exact hn
    have fin : ∀ {G' H' T}, Sub G1 G' → SOk c G' H' (wipe σ vs) T (stash vs σ S1 ++ R) → T = S2f → Q (.bl bf) H' := fun {G' H' T} s2 okT eT => by
      subst eT
      have z := SOk.unwip (L := []) ok2 okT
      exact k G' _ H' (s1.trans s2) ⟨z.cov, z.rel.put_sh (.bl _)⟩
    refine ⟨fun i m _ H' => m = ds.length - i ∧ i ≤ ds.length ∧ ∃ G' T, Sub G1 G' ∧ SOk c G' H' (wipe σ vs) T (stash vs σ S1 ++ R) ∧ gbD st vs g tt te (ds.drop i) T = .ok (bf, S2f), ⟨_, rfl, Nat.zero_le _, G1, _, Sub.refl _, ok2.wip, e2⟩, ⟨?_⟩⟩
    rintro i m acc H' ⟨rfl, hle, G', T, s2, okT, e3⟩
    by_cases hlt : i < ds.length
    · refine .inr ⟨w.go G' H' i s2 okT.sub hlt, fun _ H3 => ∃ G3 T3, Sub G1 G3 ∧ SOk c G3 H3 (wipe σ vs) T3 (stash vs σ S1 ++ R) ∧ gbD st vs g tt te (ds.drop (i + 1)) T3 = .ok (bf, S2f), fun _ H3 h3 => ⟨ds.length - (i + 1), by omega, rfl, hlt, h3⟩, fun x H3 y => ?_⟩
      rw [List.drop_eq_getElem_cons hlt] at e3
      obtain ⟨T1, e4, e3⟩ := bind_ok e3
      obtain ⟨⟨b, T2⟩, e5, e3⟩ := bind_ok e3
      obtain ⟨G3, s3, ok3⟩ := yld_sh w s2 okT (List.getElem?_eq_getElem hlt) y
      refine ⟨G3, T, _, _, ok3, T1, e4, fun G4 σ4 H4 s4 p4 ok4 => ⟨wipe_prot hσ p4, G4, T1, _, ok4, b, T2, e5, fun G5 H5 s5 ok5 => ?_⟩⟩
      cases b with
      | false => exact ⟨G5, _, ((s2.trans s3).trans s4).trans s5, ok5.rewip hσ p4, e3⟩
      | true =>
        simp only [if_true] at e3 ⊢
        obtain ⟨⟨⟨m1, d1⟩, T3⟩, e6, e3⟩ := bind_ok e3
        refine ⟨G5, T2, _, ok5, _, T3, e6, fun G6 yv H6 s6 ok6 => ?_⟩
        dsimp only at e3
        split at e3
        · rename_i b'
          cases bool_of ok6.rel
          have ok7 := SOk.rewip hσ p4 (S := T3) ⟨ok6.cov, ok6.rel.drop⟩
          have sA := ((((s2.trans s3).trans s4).trans s5).trans s6)
          refine ⟨b', rfl, ?_⟩
          by_cases hb : b' = st
          · rw [if_pos hb] at e3
            cases e3
            exact .inl ⟨hb, fin sA ok7 rfl⟩
          · rw [if_neg hb] at e3
            exact .inr ⟨hb, G6, _, sA, ok7, e3⟩
        · cases e3
    · have ei : i = ds.length := by omega
      subst ei
      rw [List.drop_length] at e3
      cases e3
      exact .inl ⟨w.stop G' H' s2 okT.sub, fin s2 okT rfl⟩
  · dsimp only at e
    rw [if_neg hn] at e
    cases e
end
section
variable {X : Cx} {c : Gh} {cd P : Addr} {elt tg iter : Expr} {ifs : List Expr} {scope : Scope} {own : List (Str × Nat)} {vs : List Nat} {gpos p pos : Pos} {fi : FI} {g : FG} {tt : FT} {te : FE} {k n : Nat}
/-- what a def with generator expressions has: its code object's table -/
structure GTab (X : Cx) (c : Gh) (cd P : Addr) : Prop where
  TB : GxR.TabB X.base X.mg cd P
  hcode : X.env.code = .ref cd
  mem : P ∈ c.T
theorem de_allG (gt : GTab X c cd P) (hr : Room (k + 1) X.A) (hcalm : X.calm = true) (hgl : Gl X "all") (hm : X.mg "all" = none) (hN : X.N.Nodup) (hi : PI X tg iter (tId c fi)) (ok : BlkOk X.N X.env.scope scope own)
    (hgd : ∀ (s : Shared) (H : Hp) (C : Addr) (code : Value) (fp : List Addr) (it : Addr), Room k (X.A.in1.in1.over (gCode elt tg iter ifs scope gpos it (gEnv scope C code X.env)) []) → PG (gCx X (X.A.in1.in1.over (gCode elt tg iter ifs scope gpos it (gEnv scope C code X.env)) []) s H (gEnv scope C code X.env) fp) tg (tGd c (outP n vs) g))
    (htd : ∀ (s : Shared) (H : Hp) (C : Addr) (code : Value) (fp : List Addr) (it : Addr), Room k (X.A.in1.in1.over (gCode elt tg iter ifs scope gpos it (gEnv scope C code X.env)) []) → PTs (gCx X (X.A.in1.in1.over (gCode elt tg iter ifs scope gpos it (gEnv scope C code X.env)) []) s H (gEnv scope C code X.env) fp) ifs (tT c tt))
    (hed : ∀ (s : Shared) (H : Hp) (C : Addr) (code : Value) (fp : List Addr) (it : Addr), Room k (X.A.in1.in1.over (gCode elt tg iter ifs scope gpos it (gEnv scope C code X.env)) []) → PE (gCx X (X.A.in1.in1.over (gCode elt tg iter ifs scope gpos it (gEnv scope C code X.env)) []) s H (gEnv scope C code X.env) fp) elt (tE c te))
    (hv : own.map (·.2) = vs := by rfl) (hco : scope.isCoroutine = false := by rfl) (hcell : ∀ y ∈ scope.names, y.2 ≠ .cell := by decide +kernel) (hdot : scope.names.lookup (".0" : Str) = some NameKind.local := by decide +kernel)
    (hs : ∀ v, genFold iter X.env v = pure v := by intro _; rfl) (he : starEach [.GeneratorExp elt [⟨tg, iter, ifs, 0⟩] scope gpos] X.env = (false, eval (.GeneratorExp elt [⟨tg, iter, ifs, 0⟩] scope gpos) X.env) :: starEach [] X.env := by rfl) :
    PE X (.Call (.Name "all" p) [.GeneratorExp elt [⟨tg, iter, ifs, 0⟩] scope gpos] [] pos) (tE c (fGB false n vs fi g tt te)) := by
  subst hv
  exact pemono (pe_allG hr hcalm hgl hm bt_all gt.TB gt.hcode ok hN hi hgd htd hed hco hcell hdot hs he) fun _ _ _ h => gb_read gt.mem h
theorem de_anyG (gt : GTab X c cd P) (hr : Room (k + 1) X.A) (hcalm : X.calm = true) (hgl : Gl X "any") (hm : X.mg "any" = none) (hN : X.N.Nodup) (hi : PI X tg iter (tId c fi)) (ok : BlkOk X.N X.env.scope scope own)
    (hgd : ∀ (s : Shared) (H : Hp) (C : Addr) (code : Value) (fp : List Addr) (it : Addr), Room k (X.A.in1.in1.over (gCode elt tg iter ifs scope gpos it (gEnv scope C code X.env)) []) → PG (gCx X (X.A.in1.in1.over (gCode elt tg iter ifs scope gpos it (gEnv scope C code X.env)) []) s H (gEnv scope C code X.env) fp) tg (tGd c (outP n vs) g))
    (htd : ∀ (s : Shared) (H : Hp) (C : Addr) (code : Value) (fp : List Addr) (it : Addr), Room k (X.A.in1.in1.over (gCode elt tg iter ifs scope gpos it (gEnv scope C code X.env)) []) → PTs (gCx X (X.A.in1.in1.over (gCode elt tg iter ifs scope gpos it (gEnv scope C code X.env)) []) s H (gEnv scope C code X.env) fp) ifs (tT c tt))
    (hed : ∀ (s : Shared) (H : Hp) (C : Addr) (code : Value) (fp : List Addr) (it : Addr), Room k (X.A.in1.in1.over (gCode elt tg iter ifs scope gpos it (gEnv scope C code X.env)) []) → PE (gCx X (X.A.in1.in1.over (gCode elt tg iter ifs scope gpos it (gEnv scope C code X.env)) []) s H (gEnv scope C code X.env) fp) elt (tE c te))
    (hv : own.map (·.2) = vs := by rfl) (hco : scope.isCoroutine = false := by rfl) (hcell : ∀ y ∈ scope.names, y.2 ≠ .cell := by decide +kernel) (hdot : scope.names.lookup (".0" : Str) = some NameKind.local := by decide +kernel)
    (hs : ∀ v, genFold iter X.env v = pure v := by intro _; rfl) (he : starEach [.GeneratorExp elt [⟨tg, iter, ifs, 0⟩] scope gpos] X.env = (false, eval (.GeneratorExp elt [⟨tg, iter, ifs, 0⟩] scope gpos) X.env) :: starEach [] X.env := by rfl) :
    PE X (.Call (.Name "any" p) [.GeneratorExp elt [⟨tg, iter, ifs, 0⟩] scope gpos] [] pos) (tE c (fGB true n vs fi g tt te)) := by
  subst hv
  exact pemono (pe_anyG hr hcalm hgl hm bt_any gt.TB gt.hcode ok hN hi hgd htd hed hco hcell hdot hs he) fun _ _ _ h => gb_read gt.mem h
end
end O
set_option maxRecDepth 100000
set_option maxHeartbeats 2000000
namespace O
open PySem PySem.Spec PyProof.Rows L2
open Sem (wp)

abbrev sObj (a : Int) (t : Tok) (c : Nat) : Obj := { cls := .type "list", dict := none, data := .seq #[.int a t] c, slots := #[] }
section
variable {prog : Program} {w : World} {A : Around} {a : Addr} {g : Nat} {S : Addr} {Fin : Int → Shared → Prop}
def YSum (a : Addr) (g : Nat) (S : Addr) : Protocol := fun n s₀ v s kap => ∃ i tv acc t c, v = .int i tv ∧ s₀.heap.get? S = some (sObj acc t c) ∧ s.heap.get? S = some (sObj acc t c) ∧ s.heap.IsGen a g ∧ s.heap.NoLimit ∧ g < s.gens.size ∧ AllBare s.gens ∧
  ∀ t' c' s'', Evo [S] [(S, sObj (acc + i) t' c')] s s'' → kap (.send .none) s''
def PSum (g : Nat) (S : Addr) (Fin : Int → Shared → Prop) : Nat → Shared → Shared → Prop := fun n s₀ s => ∃ acc t c, s₀.heap.get? S = some (sObj acc t c) ∧ ∀ h', (∀ b o, s.heap.get? b = some o → h'.get? b = some o) → Fin acc { s.setGen g .finished with heap := h' }
theorem sum_loop_gen (hh : A.handled = none) (hroom : A.in1.depth < recursionLimit) (haS : a ≠ S) (hcS : cStatics ≠ S) : ∀ (n : Nat) (gs : GenState) (s : Shared) (acc : Int) (tA : Tok) (c : Nat) (st : Int), (st = 0 ∨ st = 2) → s.heap.IsGen a g → s.heap.NoLimit → s.gens[g]? = some gs → s.heap.get? S = some (sObj acc tA c) →
    gs.Goes (model prog w) A.in1.in1 (fun n s₀ r s₁ => r = .ok .next ∧ PSum g S Fin n s₀ s₁) (YSum a g S) n (.send .none) (s.setGen g .running) →
    codeAny (model prog w) A (.builtin "sum.loop" ⟨[.ref a, .ref S, rawInt st, rawInt 0], []⟩) (fun r s' => ∃ b t, r = .ok (.ret (.int b t)) ∧ Fin b s') s := by
  intro n
  induction n with
  | zero =>
    intro gs s acc tA c st hst2 hg hl hgs hS hgo
    refine codeAny_builtin F.entry_sum_loop ?_
    rw [Around.under_plainId F.plain_sum_loop _]
    show wpAny _ A.in1 (seqItems? (.ref S) >>= _) _ _ s
    refine wpAny_bind (wpAny_seqItems hS rfl ?_)
    show wpAny _ A.in1 (tryCatch (pyNext (.ref a)) _ >>= _) _ _ s
    refine wpAny_bind (wpAny_tryCatch (wpAny_pyNext_genexpQ (A := A.in1) hh hl hroom hg hgs hgo (fun v s₁ gs' hb hv => ?_) (fun s₁ hp h' hk => ?_)))
    · obtain ⟨i, tv, acc', t, c', rfl, e0, e1, h1, h2, h3, h4, h5⟩ := hv
      exact absurd (h5 0 0 { s₁ with heap := s₁.heap.update S (fun _ => sObj (acc' + i) 0 0) } ⟨rfl, h4, Nat.le_refl _, fun b o hb e => (Heap.get?_update_other _ _ (fun h : S = b => hb (by rw [h]; exact List.mem_singleton.mpr rfl))).trans e, fun p hp => by
        have : p = (S, sObj (acc' + i) 0 0) := by simpa using hp
        subst this
        exact Heap.get?_update_self _ e1 rfl⟩) (by exact id)
    · obtain ⟨acc', t, c', e0, hF⟩ := hp
      have e0 : s.heap.get? S = some (sObj acc' t c') := e0
      rw [hS] at e0
      cases e0
      exact wpAny_pure ⟨acc, tA, rfl, hF h' hk⟩
  | succ n ih =>
    intro gs s acc tA c st hst2 hg hl hgs hS hgo
    refine codeAny_builtin F.entry_sum_loop ?_
    rw [Around.under_plainId F.plain_sum_loop _]
    show wpAny _ A.in1 (seqItems? (.ref S) >>= _) _ _ s
    refine wpAny_bind (wpAny_seqItems hS rfl ?_)
    show wpAny _ A.in1 (tryCatch (pyNext (.ref a)) _ >>= _) _ _ s
    refine wpAny_bind (wpAny_tryCatch (wpAny_pyNext_genexpQ (A := A.in1) hh hl hroom hg hgs hgo (fun v s₁ gs' hb hv => ?_) (fun s₁ hp h' hk => ?_)))
    · obtain ⟨i, tv, acc', t, c', rfl, e0, hS', h1, h2, h3, h4, h5⟩ := hv
      have e0 : s.heap.get? S = some (sObj acc' t c') := e0
      rw [hS] at e0
      cases e0
      have evo : ∀ (h2 : Heap) (tk : Nat) (t' : Tok) (c' : Nat), (∀ b o, b ≠ S → s₁.heap.get? b = some o → h2.get? b = some o) → h2.get? S = some (sObj (acc + i) t' c') →
          (({ s₁.setGen g gs' with heap := h2, toks := tk } : Shared).heap.IsGen a g ∧ ({ s₁.setGen g gs' with heap := h2, toks := tk } : Shared).heap.NoLimit ∧ gs'.Goes (model prog w) A.in1.in1 (fun n s₀ r s₁ => r = .ok .next ∧ PSum g S Fin n s₀ s₁) (YSum a g S) n (.send .none) (({ s₁.setGen g gs' with heap := h2, toks := tk } : Shared).setGen g .running)) := fun h2' tk t' c' hk hs => by
        refine ⟨?_, ?_, h5 t' c' _ ⟨rfl, AllBare.setGen (s := { s₁.setGen g gs' with heap := h2', toks := tk }) (AllBare.setGen (s := s₁) h4 hb) rfl, by simp [Shared.setGen], fun b o hb' e => hk b o (fun z => hb' (by rw [z]; exact List.mem_singleton.mpr rfl)) e, fun p hp => ?_⟩⟩
        · obtain ⟨o, nm, qn, ho, r⟩ := h1
          exact ⟨o, nm, qn, hk a o haS ho, r⟩
        · obtain ⟨mc, hns, hnn⟩ := h2
          exact ⟨mc, hns.at' fun o e => hk cStatics o hcS e, hnn⟩
        · have : p = (S, sObj (acc + i) t' c') := by simpa using hp
          subst this
          exact hs
      have gg : ∀ (h2 : Heap) (tk : Nat), ({ s₁.setGen g gs' with heap := h2, toks := tk } : Shared).gens[g]? = some gs' := fun _ _ => setGen_get h3
      rcases hst2 with rfl | rfl
      · show wpAny _ A.in1 (if (_ : Bool) = true then (mkInt (acc + i) >>= _) else _) _ _ _
        split
        · refine wpAny_bind (wpAny_mkInt ?_)
          show wpAny _ A.in1 (updateSeq S (fun _ => #[.int (acc + i) s₁.toks]) >>= _) _ _ _
          refine wpAny_bind ?_
          refine wpAny_updateSeq hS' rfl (wpAny_pure ⟨plainId_quiet F.plain_sum_loop _, ?_⟩)
          have hs2 := Heap.get?_update_self (Obj.mapSeq fun _ => #[Value.int (acc + i) s₁.toks]) hS' rfl
          obtain ⟨q1, q2, q3⟩ := evo _ (s₁.toks + 1) _ _ (fun b o hb e => (Heap.get?_update_other _ _ (Ne.symm hb)).trans e) hs2
          exact ih gs' _ _ _ _ 0 (.inl rfl) q1 q2 (gg _ _) hs2 q3
        · refine wpAny_bind (wpAny_rule ?_)
          refine wpAny_bind (wpAny_attempt (wpAny_holding (wpAny_add_int ?_)))
          show wpAny _ A.in1 (updateSeq S (fun _ => #[.int (acc + i) s₁.toks]) >>= _) _ _ _
          refine wpAny_bind (wpAny_updateSeq hS' rfl ?_)
          have hS₂ := Heap.get?_update_self (Obj.mapSeq fun _ => #[Value.int (acc + i) s₁.toks]) hS' rfl
          refine wpAny_bind (wpAny_letGo ?_)
          refine wpAny_bind (wpAny_updateSeq hS₂ rfl (wpAny_pure ⟨plainId_quiet F.plain_sum_loop _, ?_⟩))
          have hs3 := Heap.get?_update_self (Obj.mapSeq fun _ => #[Value.int (acc + i) s₁.toks]) hS₂ rfl
          obtain ⟨q1, q2, q3⟩ := evo _ (s₁.toks + 1) _ _ (fun b o hb e => (Heap.get?_update_other _ _ (Ne.symm hb)).trans ((Heap.get?_update_other _ _ (Ne.symm hb)).trans e)) hs3
          exact ih gs' _ _ _ _ 2 (.inr rfl) q1 q2 (gg _ _) hs3 q3
      · show wpAny _ A.in1 ((holding [Value.int i tv] (binaryOp .Add (.int acc tA) (.int i tv))).attempt >>= _) _ _ _
        refine wpAny_bind (wpAny_attempt (wpAny_holding (wpAny_add_int ?_)))
        show wpAny _ A.in1 (updateSeq S (fun _ => #[.int (acc + i) s₁.toks]) >>= _) _ _ _
        refine wpAny_bind (wpAny_updateSeq hS' rfl ?_)
        have hS₂ := Heap.get?_update_self (Obj.mapSeq fun _ => #[Value.int (acc + i) s₁.toks]) hS' rfl
        refine wpAny_bind (wpAny_letGo ?_)
        refine wpAny_bind (wpAny_updateSeq hS₂ rfl (wpAny_pure ⟨plainId_quiet F.plain_sum_loop _, ?_⟩))
        have hs3 := Heap.get?_update_self (Obj.mapSeq fun _ => #[Value.int (acc + i) s₁.toks]) hS₂ rfl
        obtain ⟨q1, q2, q3⟩ := evo _ (s₁.toks + 1) _ _ (fun b o hb e => (Heap.get?_update_other _ _ (Ne.symm hb)).trans ((Heap.get?_update_other _ _ (Ne.symm hb)).trans e)) hs3
        exact ih gs' _ _ _ _ 2 (.inr rfl) q1 q2 (gg _ _) hs3 q3
    · obtain ⟨acc', t, c', e0, hF⟩ := hp
      have e0 : s.heap.get? S = some (sObj acc' t c') := e0
      rw [hS] at e0
      cases e0
      exact wpAny_pure ⟨acc, tA, rfl, hF h' hk⟩
end
def YwS : Int → V → Hp → (Int → Hp → Prop) → Prop := fun acc y H Nx => ∃ i, y = .int i ∧ Nx (acc + i) H
def tSG (P : Addr) (wi : TI) (g : TG) (tt : TT) (te : TE) (vs : List Nat) : TE := fun σ H Q => wi σ H fun J H1 => GxR.TabG H1 P ∧ ∀ H2, GxR.Tabbed P H1 H2 → ∃ W : Nat → Nat → Int → Hp → Prop, (∃ m, W 0 m 0 H2) ∧ GWalk J g tt te vs (wipe σ vs) YwS (fun acc H => Q (.int acc) H) W
abbrev accS (S : Addr) : AccK Int := ⟨[S], fun a ps => ∃ t c, ps = [(S, sObj a t c)], fun _ _ ⟨_, _, h⟩ => by rw [h]; rfl, fun _ _ ⟨_, _, h⟩ p hp v => by
  rw [h] at hp
  rw [List.mem_singleton.mp hp]
  intro z
  cases z⟩
section
variable {X : Cx} {pins : List (Addr × Obj)} {σ : L2.St} {H : Hp} {s : Shared}
theorem gen_goesS {P : Addr} {elt tg iter : Expr} {ifs : List Expr} {scope : Scope} {own : List (Str × Nat)} {gpos : Pos} {g : TG} {tt : TT} {te : TE} {k : Nat} {Q : VK} {v : Value} {s' : Shared} {t0 : Tok} {c0 tk0 : Nat}
    (hr : Room (k + 1) X.A) (hcalm : X.calm = true) (ok : BlkOk X.N X.env.scope scope own) (hN : X.N.Nodup) (hco : scope.isCoroutine = false) (hcell : ∀ y ∈ scope.names, y.2 ≠ .cell)
    (hgd : ∀ (s : Shared) (H : Hp) (C : Addr) (code : Value) (fp : List Addr) (it : Addr), Room k (X.A.in1.in1.over (gCode elt tg iter ifs scope gpos it (gEnv scope C code X.env)) []) → PG (gCx X (X.A.in1.in1.over (gCode elt tg iter ifs scope gpos it (gEnv scope C code X.env)) []) s H (gEnv scope C code X.env) fp) tg g)
    (htd : ∀ (s : Shared) (H : Hp) (C : Addr) (code : Value) (fp : List Addr) (it : Addr), Room k (X.A.in1.in1.over (gCode elt tg iter ifs scope gpos it (gEnv scope C code X.env)) []) → PTs (gCx X (X.A.in1.in1.over (gCode elt tg iter ifs scope gpos it (gEnv scope C code X.env)) []) s H (gEnv scope C code X.env) fp) ifs tt)
    (hed : ∀ (s : Shared) (H : Hp) (C : Addr) (code : Value) (fp : List Addr) (it : Addr), Room k (X.A.in1.in1.over (gCode elt tg iter ifs scope gpos it (gEnv scope C code X.env)) []) → PE (gCx X (X.A.in1.in1.over (gCode elt tg iter ifs scope gpos it (gEnv scope C code X.env)) []) s H (gEnv scope C code X.env) fp) elt te)
    (hm : Made X pins σ tg elt iter ifs scope gpos (fun J H2 => ∃ W : Nat → Nat → Int → Hp → Prop, (∃ m, W 0 m 0 H2) ∧ GWalk J g tt te (own.map (·.2)) (wipe σ (own.map (·.2))) YwS (fun acc H => Q (.int acc) H) W) v s') :
    ∃ (a : Addr), v = .ref a ∧ ∃ (gn n : Nat) (gs : GenState), s'.heap.IsGen a gn ∧ a ≠ s'.heap.objs.size ∧ s'.heap.NoLimit ∧ s'.gens[gn]? = some gs ∧
      gs.Goes (model X.prog X.w) X.A.in1.in1 (fun n s₀ r s₁ => r = .ok .next ∧ PSum gn s'.heap.objs.size (fun b s => ∀ t, EP X pins σ Q (.int b t) s) n s₀ s₁) (YSum a gn s'.heap.objs.size) n (.send .none) (({ s' with heap := s'.heap.push (sObj 0 t0 c0), toks := tk0 } : Shared).setGen gn .running) := by
  obtain ⟨s4, H2, it, fp, tn, J, code, go, h', tk, m, rfl, I4, T, st4, f4, ⟨W, ⟨m0, w0⟩, GW⟩, rfl, hn, kp, hgo, hgen, hgc, hsz⟩ := hm
  have hA : (X.A.in1.in1.over (gCode elt tg iter ifs scope gpos it (gEnv scope s4.heap.objs.size code X.env)) []).handled = none := hr.hd
  have hF : (X.A.in1.in1.over (gCode elt tg iter ifs scope gpos it (gEnv scope s4.heap.objs.size code X.env)) []).frames = some (gEnv scope s4.heap.objs.size code X.env :: X.stack) := over_frames (show X.A.in1.in1.frames = some X.stack from I4.ok.frames) rfl
  have Ig := gen_inv (fp := fp) (code := code) (gs := .fresh (.compStart (.GeneratorExp elt [⟨tg, iter, ifs, 0⟩] scope gpos) 0 (.ref it) .none (gEnv scope s4.heap.objs.size code X.env))) (tk := tk) I4 ok hN hcell f4 hA hF hn kp hgo (Nat.lt_succ_self _) hgc rfl
  have hroom := room_gen (elt := elt) (tg := tg) (iter := iter) (ifs := ifs) (scope := scope) (pos := gpos) (it := it) (genv := gEnv scope s4.heap.objs.size code X.env) hr
  have back : ∀ {H3 : Hp} {s3 : Shared} {σ3 : L2.St} {ps : List (Addr × Obj)} {gs' : GenState} {h3 : Heap}, Inv (gCx X (X.A.in1.in1.over (gCode elt tg iter ifs scope gpos it (gEnv scope s4.heap.objs.size code X.env)) []) s4 H2 (gEnv scope s4.heap.objs.size code X.env) fp) ps σ3 H3 s3 → gs'.bare = true → (∀ b o, s3.heap.get? b = some o → h3.get? b = some o) → Inv X pins σ H3 { s3.setGen s4.gens.size gs' with heap := h3 } := fun {H3 s3 σ3 ps gs' h3} I hb hk => by
    have J : Inv X pins σ H3 s3 := I4.call' (ch := fp) I.os I.base I.hok I.bare fun b hb => ⟨(f4 b hb).1.2.2.2.1, (f4 b hb).1.2.1, (f4 b hb).1.2.2.2.2.1, (f4 b hb).1.2.2.2.2.2⟩
    have z := Inv.gensTo (g' := (s3.setGen s4.gens.size gs').gens) (h' := h3) J (AllBare.setGen J.bare hb) hk
    exact z
  have hlt : s4.heap.objs.size < h'.objs.size := by rw [hsz]; exact Nat.lt_succ_of_lt (Nat.lt_succ_self _)
  refine ⟨s4.heap.objs.size + 1, rfl, s4.gens.size, m0 + 1, .fresh (.compStart (.GeneratorExp elt [⟨tg, iter, ifs, 0⟩] scope gpos) 0 (.ref it) .none (gEnv scope s4.heap.objs.size code X.env)), hgen _ hgo, ?_, I4.nolimit.keeps kp, by simp, rfl, ?_⟩
  · show s4.heap.objs.size + 1 ≠ h'.objs.size
    rw [hsz]
    exact Nat.ne_of_lt (Nat.lt_succ_self _)
  have kp5 : ∀ b o, h'.get? b = some o → (h'.push (sObj 0 t0 c0)).get? b = some o := fun b o e => Heap.get?_push_of_some _ e
  have Ig1 := Ig.kept (t' := tk0) kp5
  have hSg : (h'.push (sObj 0 t0 c0)).get? h'.objs.size = some (sObj 0 t0 c0) := Heap.get?_push_size _ rfl
  have Ig2 := Inv.gensTo (g' := (({ s4 with heap := h', gens := s4.gens.push (.fresh (.compStart (.GeneratorExp elt [⟨tg, iter, ifs, 0⟩] scope gpos) 0 (.ref it) .none (gEnv scope s4.heap.objs.size code X.env))), toks := tk } : Shared).setGen s4.gens.size .running).gens) (h' := h'.push (sObj 0 t0 c0)) Ig1 (AllBare.setGen Ig.bare rfl) (fun _ _ e => e)
  have Ig3 := Inv.pins_of (pins' := [(s4.heap.objs.size + 1, go), (h'.objs.size, sObj 0 t0 c0)]) Ig2 (fun p hp => by
    rcases List.mem_cons.mp hp with rfl | hp
    · exact Ig2.pin _ (List.mem_append_right _ List.mem_cons_self)
    · have : p = (h'.objs.size, sObj 0 t0 c0) := by simpa using hp
      subst this
      refine ⟨hSg, I4.hok.fresh (Nat.le_of_lt hlt), Nat.ne_of_gt hlt, fun z => ?_, fun v z => by cases z⟩
      have hb := (I4.stack.mem z).2.choose_spec.1
      exact Nat.lt_irrefl _ (Nat.lt_trans hlt (Heap.lt_size hb)))
  have st5 : tn 0 (h'.push (sObj 0 t0 c0)) := T.keep _ _ _ st4 fun b _ o e => kp5 b o (kp b o e)
  refine gen_start T st5 ?_
  refine gen_loop (X := X) (gn := s4.gens.size) (a := s4.heap.objs.size + 1) (go := go) (EndW := fun acc H => Q (.int acc) H) _ rfl hcalm T (hgd _ _ _ _ _ _ hroom) (htd _ _ _ _ _ _ hroom) (hed _ _ _ _ _ _ hroom) wipe_wipe (accS h'.objs.size) (fun hb => ?_) (fun hb => ?_) (fun b hb z => ?_) (fun b hb => ?_) hco GW ?_ ?_ m0 (m0 + 1) 0 0 H2 _ _ [(h'.objs.size, sObj 0 t0 c0)] (Nat.lt_succ_self _) w0 ⟨t0, c0, rfl⟩ Ig3 (fun p hp => by
      have : p = (h'.objs.size, sObj 0 t0 c0) := by simpa using hp
      subst this
      exact hSg) st5 (fun b hb => (f4 b hb).1.1) (by simp [Shared.setGen])
  · exact absurd (f4 _ hb).2 (Nat.not_lt.mpr (Nat.le_succ _))
  · have : s4.heap.objs.size + 1 = h'.objs.size := by simpa using hb
    rw [hsz] at this
    exact absurd this (Nat.ne_of_lt (Nat.lt_succ_self _))
  · have : b = h'.objs.size := by simpa using z
    rw [this] at hb
    exact absurd (Nat.lt_trans hlt (f4 _ hb).2) (Nat.lt_irrefl _)
  · have : b = h'.objs.size := by simpa using hb
    subst this
    refine ⟨Nat.le_of_lt hlt, fun x cc e z => ?_⟩
    obtain ⟨w, q⟩ := Ig.cell x cc e
    have hq := Ig2.pin (s4.heap.objs.size + 1, go) (List.mem_append_right _ List.mem_cons_self)
    have hlt2 : cc < h'.objs.size := q.lt
    rw [z] at hlt2
    exact Nat.lt_irrefl _ hlt2
  · intro n s₀ acc H3 s3 σ3 ps hP I hz hg3 he
    obtain ⟨t, c, rfl⟩ := hP
    exact ⟨rfl, acc, t, c, hz _ List.mem_cons_self, fun h3 hk t2 => ⟨.int acc, H3, back I rfl hk, ⟨t2, rfl⟩, he⟩⟩
  · intro n s₀ acc y v H3 s3 σ3 ps Nx kap hP I hz hg3 rv yw hk
    obtain ⟨t, c, rfl⟩ := hP
    obtain ⟨i, rfl, yw⟩ := yw
    obtain ⟨tv, rfl⟩ := rv
    have pa := I.pin (s4.heap.objs.size + 1, go) (List.mem_append_right _ List.mem_cons_self)
    have pS := I.pin (h'.objs.size, sObj acc t c) (List.mem_append_right _ (List.mem_cons_of_mem _ List.mem_cons_self))
    exact ⟨i, tv, acc, t, c, rfl, hz _ List.mem_cons_self, pS.1, hgen _ pa.1, I.nolimit, hg3, I.bare, fun t' c' s'' ev => hk (acc + i) [(h'.objs.size, sObj (acc + i) t' c')] s'' yw ⟨t', c', rfl⟩ ev⟩
theorem pe_sumG {c P : Addr} {elt tg iter : Expr} {ifs : List Expr} {scope : Scope} {own : List (Str × Nat)} {gpos p pos : Pos} {wi : TI} {g : TG} {tt : TT} {te : TE} {k : Nat}
    (hr : Room (k + 1) X.A) (hcalm : X.calm = true) (hgl : Gl X "sum") (hm : X.mg "sum" = none) (hb : bootBuiltins "sum" = some (.builtin "sum")) (TB : GxR.TabB X.base X.mg c P) (hcode : X.env.code = .ref c) (ok : BlkOk X.N X.env.scope scope own) (hN : X.N.Nodup) (hi : PI X tg iter wi)
    (hgd : ∀ (s : Shared) (H : Hp) (C : Addr) (code : Value) (fp : List Addr) (it : Addr), Room k (X.A.in1.in1.over (gCode elt tg iter ifs scope gpos it (gEnv scope C code X.env)) []) → PG (gCx X (X.A.in1.in1.over (gCode elt tg iter ifs scope gpos it (gEnv scope C code X.env)) []) s H (gEnv scope C code X.env) fp) tg g)
    (htd : ∀ (s : Shared) (H : Hp) (C : Addr) (code : Value) (fp : List Addr) (it : Addr), Room k (X.A.in1.in1.over (gCode elt tg iter ifs scope gpos it (gEnv scope C code X.env)) []) → PTs (gCx X (X.A.in1.in1.over (gCode elt tg iter ifs scope gpos it (gEnv scope C code X.env)) []) s H (gEnv scope C code X.env) fp) ifs tt)
    (hed : ∀ (s : Shared) (H : Hp) (C : Addr) (code : Value) (fp : List Addr) (it : Addr), Room k (X.A.in1.in1.over (gCode elt tg iter ifs scope gpos it (gEnv scope C code X.env)) []) → PE (gCx X (X.A.in1.in1.over (gCode elt tg iter ifs scope gpos it (gEnv scope C code X.env)) []) s H (gEnv scope C code X.env) fp) elt te)
    (hco : scope.isCoroutine = false := by rfl) (hcell : ∀ y ∈ scope.names, y.2 ≠ .cell := by decide +kernel) (hdot : scope.names.lookup (".0" : Str) = some NameKind.local := by decide +kernel)
    (hs : ∀ v, genFold iter X.env v = pure v := by intro _; rfl) (he : starEach [.GeneratorExp elt [⟨tg, iter, ifs, 0⟩] scope gpos] X.env = (false, eval (.GeneratorExp elt [⟨tg, iter, ifs, 0⟩] scope gpos) X.env) :: starEach [] X.env := by rfl) :
    PE X (.Call (.Name "sum" p) [.GeneratorExp elt [⟨tg, iter, ifs, 0⟩] scope gpos] [] pos) (tSG P wi g tt te (own.map (·.2))) := by
  refine ⟨fun pins s σ H Q I h => ?_⟩
  refine wpAny_Call_Name_kw (ld_blt I hgl hm hb ?_)
  refine PyProof.Rows.callWith_builtin1 ?_ he (by rfl)
  rw [he]
  show wpAny _ _ (spliced ((false, eval (.GeneratorExp elt [⟨tg, iter, ifs, 0⟩] scope gpos) X.env) :: backTo pos (starEach [] X.env))) _ _ s
  refine Calls.spliced_cons (wpAny_mono (gen_make hr TB hcode ok hco hcell hdot hi hs I h) (fun v s' hm => ?_) fun _ _ e => e)
  refine Calls.spliced_nil ?_
  obtain ⟨a, rfl, gn, n, gs, hg, hne, hl, hgs, hgo⟩ := gen_goesS (t0 := s'.toks) (c0 := 0) (tk0 := s'.toks + 1) (P := P) hr hcalm ok hN hco hcell hgd htd hed hm
  refine call_function_tree F.kind_sum F.plain_sum F.entry_sum (F.args_sum1 _) ?_
  unfold Builtin.«sum»
  simp only [List.length_cons, List.length_nil]
  rw [if_neg (by decide)]
  refine wpAny_bind (wpAny_of_eq (show Builtin.Builtins.bindParams "sum" ["start"] 0 { } = pure [none] from rfl) ?_)
  refine wpAny_bind (wpAny_pyIter_gen hg ?_)
  refine wpAny_bind (wpAny_mkInt ?_)
  refine wpAny_bind (wpAny_pure ?_)
  simp only [List.forIn_cons, List.forIn_nil]
  refine wpAny_bind (wpAny_bind (wpAny_bind (wpAny_isInstance (T := "int") (b := false) (typeIs_int _ _ _) PySem.sub_int_str ?_)))
  simp only [Bool.false_eq_true, if_false]
  refine wpAny_pure (wpAny_bind (wpAny_bind (wpAny_isInstance (T := "int") (b := false) (typeIs_int _ _ _) PySem.sub_int_bytes ?_)))
  simp only [Bool.false_eq_true, if_false]
  refine wpAny_pure (wpAny_bind (wpAny_bind (wpAny_isInstance (T := "int") (b := false) (typeIs_int _ _ _) PySem.sub_int_bytearray ?_)))
  simp only [Bool.false_eq_true, if_false]
  refine wpAny_pure (wpAny_pure ?_)
  refine wpAny_bind (wpAny_newObj_type ?_)
  have hcs : cStatics ≠ s'.heap.objs.size := fun e => by
    obtain ⟨_, hns, _⟩ := hl
    exact Nat.lt_irrefl _ (by have := hns.lt; rw [e] at this; exact this)
  refine wpAny_pure ⟨plainId_quiet F.plain_sum_loop _, codeAny_mono (sum_loop_gen (A := X.A) (Fin := fun b s => ∀ t, EP X pins σ Q (.int b t) s) hr.hd (by show X.A.depth + 0 < _; have := hr.dp; omega) hne hcs n gs _ 0 s'.toks 0 0 (.inl rfl) (hg.push _) (hl.push _) hgs (Heap.get?_push_size _ rfl) hgo) fun r s2 hq => ?_⟩
  obtain ⟨b, t, rfl, q⟩ := hq
  exact q t
end
/-! ### on data -/
def gsD (vs : List Nat) (g : FG) (tt : FT) (te : FE) : List D → Int → SS → M (Int × SS)
  | [], acc, S => .ok (acc, S)
  | d :: ds, acc, S => do
    let S1 ← g (.sh, d) S
    let (b, S2) ← tt S1
    if b then do
      let (r, S3) ← te S2
      match r.2 with
      | .int i => gsD vs g tt te ds (acc + i) (wipeS vs S3)
      | _ => stk
    else gsD vs g tt te ds acc (wipeS vs S2)
def fGS (n : Nat) (vs : List Nat) (fi : FI) (g : FG) (tt : FT) (te : FE) : FE := fun S => do
  let (ds, S1) ← fi S
  if S1.length = n then do
    let (b, S2) ← gsD vs g tt te ds 0 (wipeS vs S1)
    pure ((.sh, .int b), mrg (inP vs) 0 S1 S2)
  else stk
section
variable {c : Gh}
theorem gs_read {P : Addr} {n : Nat} {vs : List Nat} {fi : FI} {g : FG} {tt : FT} {te : FE} {σ : L2.St} {H : Hp} {Q : VK} (hP : P ∈ c.T) (h : tE c (fGS n vs fi g tt te) σ H Q) : tSG P (tId c fi) (tGd c (outP n vs) g) (tT c tt) (tE c te) vs σ H Q := by
  obtain ⟨G, S, R, ok, r, S', e, k⟩ := h
  obtain ⟨⟨ds, S1⟩, e1, e⟩ := bind_ok e
  by_cases hn : S1.length = n
  · dsimp only at e
    rw [if_pos hn] at e
    obtain ⟨⟨bf, S2f⟩, e2, e⟩ := bind_ok e
    cases e
    refine ⟨G, S, R, ok, ds, S1, e1, fun J G1 H1 s1 ok1 w => ⟨ok1.rel.tab P hP, fun H2 tb => ?_⟩⟩
    have ok2 : SOk c G1 H2 σ S1 R := ⟨ok1.cov, ok1.rel.tabbed (ok1.rel.tab P hP) tb⟩
    have hσ : σ.length = n := by rw [← ok1.cov.len]; exact hn
    refine ⟨fun i m acc H' => m = ds.length - i ∧ i ≤ ds.length ∧ ∃ G' T, Sub G1 G' ∧ SOk c G' H' (wipe σ vs) T (stash vs σ S1 ++ R) ∧ gsD vs g tt te (ds.drop i) acc T = .ok (bf, S2f), ⟨_, rfl, Nat.zero_le _, G1, _, Sub.refl _, ok2.wip, e2⟩, ⟨?_⟩⟩
    rintro i m acc H' ⟨rfl, hle, G', T, s2, okT, e3⟩
    by_cases hlt : i < ds.length
    · refine .inr ⟨w.go G' H' i s2 okT.sub hlt, fun acc3 H3 => ∃ G3 T3, Sub G1 G3 ∧ SOk c G3 H3 (wipe σ vs) T3 (stash vs σ S1 ++ R) ∧ gsD vs g tt te (ds.drop (i + 1)) acc3 T3 = .ok (bf, S2f), fun _ H3 h3 => ⟨ds.length - (i + 1), by omega, rfl, hlt, h3⟩, fun x H3 y => ?_⟩
      rw [List.drop_eq_getElem_cons hlt] at e3
      obtain ⟨T1, e4, e3⟩ := bind_ok e3
      obtain ⟨⟨b, T2⟩, e5, e3⟩ := bind_ok e3
      obtain ⟨G3, s3, ok3⟩ := yld_sh w s2 okT (List.getElem?_eq_getElem hlt) y
      refine ⟨G3, T, _, _, ok3, T1, e4, fun G4 σ4 H4 s4 p4 ok4 => ⟨wipe_prot hσ p4, G4, T1, _, ok4, b, T2, e5, fun G5 H5 s5 ok5 => ?_⟩⟩
      cases b with
      | false => exact ⟨G5, _, ((s2.trans s3).trans s4).trans s5, ok5.rewip hσ p4, e3⟩
      | true =>
        simp only [if_true] at e3 ⊢
        obtain ⟨⟨⟨m1, d1⟩, T3⟩, e6, e3⟩ := bind_ok e3
        refine ⟨G5, T2, _, ok5, _, T3, e6, fun G6 yv H6 s6 ok6 => ?_⟩
        dsimp only at e3
        split at e3
        · rename_i i'
          have hy := int_of ok6.rel (ok6.rel.view (m := m1) (v := yv) (d := .int i') (List.mem_append_left _ List.mem_cons_self))
          subst hy
          exact ⟨i', rfl, G6, _, ((((s2.trans s3).trans s4).trans s5).trans s6), SOk.rewip hσ p4 (S := T3) ⟨ok6.cov, ok6.rel.drop⟩, e3⟩
        · cases e3
    · have ei : i = ds.length := by omega
      subst ei
      rw [List.drop_length] at e3
      cases e3
      have z := SOk.unwip (L := []) ok2 okT
      exact .inl ⟨w.stop G' H' s2 okT.sub, k G' _ H' (s1.trans s2) ⟨z.cov, z.rel.put_sh (.int _)⟩⟩
  · dsimp only at e
    rw [if_neg hn] at e
    cases e
end
section
variable {X : Cx} {c : Gh} {cd P : Addr} {elt tg iter : Expr} {ifs : List Expr} {scope : Scope} {own : List (Str × Nat)} {vs : List Nat} {gpos p pos : Pos} {fi : FI} {g : FG} {tt : FT} {te : FE} {k n : Nat}
theorem de_sumG (gt : GTab X c cd P) (hr : Room (k + 1) X.A) (hcalm : X.calm = true) (hgl : Gl X "sum") (hm : X.mg "sum" = none) (hN : X.N.Nodup) (hi : PI X tg iter (tId c fi)) (ok : BlkOk X.N X.env.scope scope own)
    (hgd : ∀ (s : Shared) (H : Hp) (C : Addr) (code : Value) (fp : List Addr) (it : Addr), Room k (X.A.in1.in1.over (gCode elt tg iter ifs scope gpos it (gEnv scope C code X.env)) []) → PG (gCx X (X.A.in1.in1.over (gCode elt tg iter ifs scope gpos it (gEnv scope C code X.env)) []) s H (gEnv scope C code X.env) fp) tg (tGd c (outP n vs) g))
    (htd : ∀ (s : Shared) (H : Hp) (C : Addr) (code : Value) (fp : List Addr) (it : Addr), Room k (X.A.in1.in1.over (gCode elt tg iter ifs scope gpos it (gEnv scope C code X.env)) []) → PTs (gCx X (X.A.in1.in1.over (gCode elt tg iter ifs scope gpos it (gEnv scope C code X.env)) []) s H (gEnv scope C code X.env) fp) ifs (tT c tt))
    (hed : ∀ (s : Shared) (H : Hp) (C : Addr) (code : Value) (fp : List Addr) (it : Addr), Room k (X.A.in1.in1.over (gCode elt tg iter ifs scope gpos it (gEnv scope C code X.env)) []) → PE (gCx X (X.A.in1.in1.over (gCode elt tg iter ifs scope gpos it (gEnv scope C code X.env)) []) s H (gEnv scope C code X.env) fp) elt (tE c te))
    (hv : own.map (·.2) = vs := by rfl) (hco : scope.isCoroutine = false := by rfl) (hcell : ∀ y ∈ scope.names, y.2 ≠ .cell := by decide +kernel) (hdot : scope.names.lookup (".0" : Str) = some NameKind.local := by decide +kernel)
    (hs : ∀ v, genFold iter X.env v = pure v := by intro _; rfl) (he : starEach [.GeneratorExp elt [⟨tg, iter, ifs, 0⟩] scope gpos] X.env = (false, eval (.GeneratorExp elt [⟨tg, iter, ifs, 0⟩] scope gpos) X.env) :: starEach [] X.env := by rfl) :
    PE X (.Call (.Name "sum" p) [.GeneratorExp elt [⟨tg, iter, ifs, 0⟩] scope gpos] [] pos) (tE c (fGS n vs fi g tt te)) := by
  subst hv
  exact pemono (pe_sumG hr hcalm hgl hm bt_sum gt.TB gt.hcode ok hN hi hgd htd hed hco hcell hdot hs he) fun _ _ _ h => gs_read gt.mem h
end
end O
set_option maxRecDepth 100000
set_option maxHeartbeats 1000000
namespace O
open PySem PySem.Spec PyProof.Rows L2
/-! ### a def whose code object is known -/
structure DefC (K : PySem.W.Frag) (mg : Str → Option Value) (x : Str) (st : Stmt) (f : Addr) (fd : FuncData) (cd : Addr) : Prop where
  fn : ∃ (oc : Value) (od : Option Addr) (dV kV doc pm : Value) (an : Option Addr) (ct : Value) (osl : Array (Option Value)),
    fd = PySem.W.fnOf x x (C8.fnArgs st) (C8.fnBody st) (C8.fnScope st) dV kV doc pm an (.ref cd) ct ∧ K.lookup f = some ⟨oc, od, .func fd, osl⟩ ∧ PySem.W.codeIn K (.ref cd) x = true
  mgf : mg x = some (.ref f)
  kp : PySem.W.keepIn K (.ref f) = true
section
variable {P : Program} {w : World} {K : PySem.W.Frag} {mg : Str → Option Value} {base : Heap} {c : Gh}
theorem calDc {x : Str} {st : Stmt} {f : Addr} {fd : FuncData} {cd : Addr} {N ps : List Str} {k n : Nat} {io : List Nat} {body : FS} (F : DefC K mg x st f fd cd) (b : Binds K fd ps []) (S : FnScope N ps (C8.fnScope st)) (hn : ps.length = n) (hio : ∀ i ∈ io, i < n)
    (hb : ∀ (A : Around) (outer : List Env) (s : Shared) (H : Hp) (E : XK), Room k (A.deeper (envOfC x (C8.fnScope st) s.heap.objs.size f (.ref cd))) → PSs (cxOf C8.CX0 P w K mg base N x (C8.fnScope st) f (.ref cd) A outer s H E).nox (C8.fnBody st) (tS c io body)) :
    C8.Cal P w K mg base (k + 1) x (spD c n io (runD N.length io body)) [] := by
  obtain ⟨oc, od, dV, kV, doc, pm, an, ct, osl, rfl, lk, hcd⟩ := F.fn
  refine ⟨f, _, ps, [], fn_of lk hcd S (fun vs H Q E h => ?_) (fun A outer s H vs Q E hr h => ⟨_, (hb A outer s H E hr).nox, ?_⟩), F.mgf, F.kp, b, .nil⟩
  · obtain ⟨G, R, rs, _, _, hl, _⟩ := h
    rw [hl, hn]
  · obtain ⟨G, R, rs, rl, hl, hv, r, fs, e, kk⟩ := h
    obtain ⟨⟨fl, S'⟩, e1, e⟩ := bind_ok e
    obtain ⟨r', e2, e⟩ := bind_ok e
    obtain ⟨fs', e3, e⟩ := bind_ok e
    cases e
    have hlv : rs.length = vs.length := by omega
    have e0 : L2.start N vs = vs.map some ++ List.replicate (N.length - rs.length) none := by unfold L2.start; rw [hlv]
    refine ⟨G, rs.map some ++ List.replicate (N.length - rs.length) none, R, ?_, fl, S', e1, ?_⟩
    · rw [e0]
      refine ⟨cov_start hlv, ?_⟩
      rw [prs_start hlv]
      exact rl.perm List.perm_append_comm
    · cases fl with
      | nx =>
        cases e2
        exact fun G' σ' H' s p ok => kk G' .non H' s (ends_ok (r := (.sh, .none)) hv hio e0 p ⟨ok.cov, ok.rel.put_sh .non⟩ e3)
      | rt r =>
        cases e2
        exact fun G' v σ' H' s p ok => kk G' v H' s (ends_ok hv hio e0 p ok e3)
      | bk => cases e2
      | ct => cases e2
/-- the parameters are bound one by one -/
theorem DefC.binds {x : Str} {st : Stmt} {f : Addr} {fd : FuncData} {cd : Addr} {ps : List Str} (F : DefC K mg x st f fd cd) (hd : fd.defaults = .none)
    (h : ∀ (kV doc pm : Value) (an : Option Addr) (cdv ct : Value) (us : List Value), us.length = ps.length → bindArgs (PySem.W.fnOf x x (C8.fnArgs st) (C8.fnBody st) (C8.fnScope st) .none kV doc pm an cdv ct) ⟨us, []⟩ = pure (ps.zip us)) : Binds K fd ps [] := by
  obtain ⟨oc, od, dV, kV, doc, pm, an, ct, osl, rfl, lk, hcd⟩ := F.fn
  have e : dV = .none := hd
  subst e
  exact .all (h kV doc pm an (.ref cd) ct)
end
end O
set_option maxRecDepth 100000
set_option maxHeartbeats 1000000
namespace O
open PySem PySem.Spec PyProof.Rows L2
section
variable {X : Cx} {c : Gh} {P : List Nat} {pos : Pos}
/-! ### a list whose first item is a list of its own -/
theorem Rel.new_bx {G H : Hp} {b p : Addr} {es ds : List D} {vs : List V} {L : List T3} (r : Rel c G H ((.ow .sh, .ref b, .list es) :: L)) (hp : H p = none) (h : DqAll c.K G vs ds) : Rel c G (upd H p (.lst (.ref b :: vs))) ((.bx, .ref p, .list (.list es :: ds)) :: L) := by
  have r1 : Rel c G (upd H p (.lst (.ref b :: vs))) L := r.drop.laid hp
  obtain ⟨F, h0, n, q⟩ := r.own
  cases h0 with
  | cons a t =>
    rename_i F1 E
    obtain ⟨a, ws, es', ea, ed, h3, h4, h5⟩ := of_rep_ow a
    cases ea; cases ed
    subst h5
    have hb : b ≠ p := ne_of_none h3 hp
    refine ⟨r1.sub, r1.subB, r1.pu, r1.tab, [p, b] ++ E, .cons ⟨p, b, vs, ws, ds, es, rfl, rfl, upd_same, by rw [upd_ne hb]; exact h3, h, h4, rfl⟩ (Reps.keep (fun x hx => ?_) t), ?_, fun x hx => ?_⟩
    · obtain ⟨xs, e⟩ := t.some x hx
      rw [upd_ne (ne_of_none e hp)]
    · refine List.nodup_cons.mpr ⟨fun hm => ?_, n⟩
      rcases List.mem_cons.mp hm with z | z
      · exact hb z.symm
      · obtain ⟨xs, e⟩ := t.some p z
        rw [hp] at e; cases e
    · rcases List.mem_cons.mp hx with rfl | hx
      · exact r.fresh hp
      · exact q x hx
theorem Rel.bx_of {G H : Hp} {v : V} {d : D} {L : List T3} (r : Rel c G H ((.bx, v, d) :: L)) : ∃ a b vs ws ds es, v = .ref a ∧ d = .list (.list es :: ds) ∧ H a = some (.lst (.ref b :: vs)) ∧ H b = some (.lst ws) ∧ DqAll c.K G vs ds ∧ DqAll c.K G ws es ∧ a ≠ b := by
  obtain ⟨F, h, n, q⟩ := r.own
  cases h with
  | cons x t =>
    obtain ⟨a, b, vs, ws, ds, es, h1, h2, h3, h4, h5, h6, rfl⟩ := x
    refine ⟨a, b, vs, ws, ds, es, h1, h2, h3, h4, h5, h6, fun e => ?_⟩
    subst e
    have : (a :: a :: _ : List Addr).Nodup := n
    exact (List.nodup_cons.mp this).1 List.mem_cons_self
theorem Rel.bx_write {G H H' : Hp} {a b : Addr} {d : D} {L : List T3} {vs vs' ws' : List V} {ds es : List D} (r : Rel c G H ((.bx, .ref a, d) :: L)) (ha : H a = some (.lst (.ref b :: vs))) (k : ∀ x, x ≠ a → x ≠ b → H' x = H x) (ha' : H' a = some (.lst (.ref b :: vs'))) (hb' : H' b = some (.lst ws')) (h1 : DqAll c.K G vs' ds) (h2 : DqAll c.K G ws' es) :
    Rel c G H' ((.bx, .ref a, .list (.list es :: ds)) :: L) := by
  obtain ⟨F, h0, n, q⟩ := r.own
  cases h0 with
  | cons p t =>
    rename_i F1 E
    obtain ⟨a', b', vs0, ws0, ds0, es0, e1, e2, h3, h4, h5, h6, rfl⟩ := p
    cases e1
    rw [ha] at h3
    cases h3
    have na : ∀ x, x ∈ E → x ≠ a ∧ x ≠ b := fun x hx => by
      have n' : (a :: b :: E).Nodup := n
      refine ⟨fun e => ?_, fun e => ?_⟩
      · subst e; exact (List.nodup_cons.mp n').1 (List.mem_cons_of_mem _ hx)
      · subst e; exact (List.nodup_cons.mp (List.nodup_cons.mp n').2).1 hx
    have qa := q a List.mem_cons_self
    have qb := q b (List.mem_cons_of_mem _ List.mem_cons_self)
    have kG : ∀ x o, G x = some o → H' x = H x := fun x o e => k x (fun z => by subst z; rw [qa.1] at e; cases e) (fun z => by subst z; rw [qb.1] at e; cases e)
    have kB : ∀ x o, c.B x = some o → H' x = H x := fun x o e => k x (fun z => by subst z; rw [qa.2] at e; cases e) (fun z => by subst z; rw [qb.2] at e; cases e)
    refine ⟨fun x o e => by rw [kG x o e]; exact r.sub x o e, fun x o e => by rw [kB x o e]; exact r.subB x o e, r.pu, fun P hP => ?_, [a, b] ++ E, .cons ⟨a, b, vs', ws', ds, es, rfl, rfl, ha', hb', h1, h2, rfl⟩ (Reps.keep (fun x hx => k x (na x hx).1 (na x hx).2) t), n, q⟩
    obtain ⟨ps, e, z⟩ := r.tab P hP
    exact ⟨ps, by rw [k P (fun w => by subst w; rw [ha] at e; cases e) (fun w => by subst w; rw [h4] at e; cases e)]; exact e, z⟩
def fBx (f : FA) : FE := fun S => do
  let (ts, S1) ← f S
  match ts with
  | [.val (.ow .sh, .list cs), .val (.sh, d1), .val (.sh, d2)] => pure ((.bx, .list [.list cs, d1, d2]), S1)
  | _ => stk
theorem de_bx {e0 e1 e2 : Expr} {f : FA} (h : PA X [e0, e1, e2] (tA c f)) : PE X (.List [e0, e1, e2] pos) (tE c (fBx f)) := by
  refine pemono (pe_lst h) fun σ H Q q => ?_
  obtain ⟨G, S, R, ok, r, S', e, k⟩ := q
  obtain ⟨⟨ts, S1⟩, e1, e⟩ := bind_ok e
  dsimp only at e
  split at e
  · cases e
    refine ⟨G, S, R, ok, _, _, e1, fun G' vs H' s h1 ok' => ?_⟩
    cases h1 with
    | cons a1 h1 =>
      cases h1 with
      | cons a2 h1 =>
        cases h1 with
        | cons a3 h1 =>
          cases h1
          rename_i cs d1 d2 v0 v1 v2
          have ok2 : SOk c G' H' σ _ ((.ow .sh, v0, .list cs) :: (.sh, v1, d1) :: (.sh, v2, d2) :: R) := ok'
          obtain ⟨a, ws, es, rfl, hd, h3, h4⟩ := Rel.ow_of ok2.rel
          cases hd
          have s1 : Dq c.K G' v1 d1 := sh_dq (ok2.rel.view (m := .sh) (List.mem_append_left _ (List.mem_cons_of_mem _ List.mem_cons_self)))
          have s2 : Dq c.K G' v2 d2 := sh_dq (ok2.rel.view (m := .sh) (List.mem_append_left _ (List.mem_cons_of_mem _ (List.mem_cons_of_mem _ List.mem_cons_self))))
          refine ⟨by show 3 ≤ sizeLine; decide, fun p hp => ?_⟩
          have r2 := Rel.new_bx (L := R ++ prs σ _) (ok2.rel.sublist (List.Sublist.cons_cons _ (List.Sublist.append_right ((List.sublist_cons_self _ _).trans (List.sublist_cons_self _ _)) _))) hp (.cons s1 (.cons s2 .nil))
          exact k G' _ _ s ⟨ok2.cov, r2⟩
  · cases e
def bxAt (S : SS) (i : Nat) : M (D × List D) := match S[i]? with
  | some (some (.bx, .list (e :: ds))) => .ok (e, ds)
  | _ => stk
theorem bxAt_ok {S : SS} {i : Nat} {e : D} {ds : List D} (h : bxAt S i = .ok (e, ds)) : S[i]? = some (some (.bx, .list (e :: ds))) := by
  unfold bxAt at h
  split at h
  · rename_i z; cases h; exact z
  · cases h
def gIxB (i : Nat) (k : Nat) : FG := fun r S => do
  let z ← giveR r
  let (e, ds) ← bxAt S i
  if k < ds.length then pure (S.set i (some (.bx, .list (e :: ds.set k z.2)))) else stk
theorem dg_ixB {i : Nat} {x : Str} {k : Nat} {j : Nat} {p pos pos2 : Pos} (hN : X.N[i]? = some x := by rfl) (hv : Vis X.env.scope x := by first | exact Or.inl rfl | exact Or.inr (Or.inl rfl) | exact Or.inr (Or.inr rfl)) (hd : (x == ("__debug__" : Str)) = false := by decide) (hcd : (x == ("__classdict__" : Str)) = false := by decide)
    (ha : ∀ v, assign (.Subscript (.Name x p) (.Constant (.int ((k + 1 : Nat) : Int)) j pos2) pos) X.env v = (do
      let ov ← holding [v] (eval (.Name x p) X.env)
      let iv ← holding [v, ov] (eval (.Constant (.int ((k + 1 : Nat) : Int)) j pos2) X.env)
      standAt pos
      holding [v, ov, iv] (setItem ov iv v)
      release [v, ov, iv] []) := by intro _; rfl) : PG X (.Subscript (.Name x p) (.Constant (.int ((k + 1 : Nat) : Int)) j pos2) pos) (tGd c P (gIxB i k)) := pgmono (pg_sub (do_pk (c := c) (i := i) hN hv hd hcd) (pe_int (i := ((k + 1 : Nat) : Int))) set_list ha) fun v σ H Q h => by
  obtain ⟨G, S, R, r, ok, S', e, kk⟩ := h
  obtain ⟨z, e0, e⟩ := bind_ok e
  obtain ⟨⟨e1, ds⟩, e2, e⟩ := bind_ok e
  dsimp only at e
  split at e
  · rename_i hk
    cases e
    obtain ⟨hz, G0, s0, rl0⟩ := Rel.give ok.rel e0
    have ok0 : SOk c G0 H σ S ((.sh, v, r.2) :: R) := ⟨ok.cov, rl0⟩
    have z1 := bxAt_ok e2
    refine ⟨G0, S, _, ok0, .slot i, S, by unfold oP; rw [z1], fun G1 o H1 s1 h1 ok1 => ?_⟩
    obtain ⟨ow, hw, rl⟩ := ok1.slot z1
    have h1 : σ[i]? = some (some o) := h1
    rw [hw] at h1; cases h1
    obtain ⟨a, b, vs, ws, ds', es, rfl, hd, h3, h4, h5, h6, hab⟩ := rl.bx_of
    cases hd
    have hsh : Dq c.K G1 v z.2 := by
      have := ok1.rel.view (m := .sh) (v := v) (d := r.2) (by simp [tkR])
      rw [hz]
      exact sh_dq this
    have hl := h5.length
    refine ⟨a, .ref b :: vs, ((k + 1 : Nat) : Int), k + 1, rfl, rfl, h3, by
      unfold ixN
      rw [if_pos (by omega), if_pos (by rw [List.length_cons]; omega)]
      rfl, ?_⟩
    have rl2 := rl.bx_write (H' := upd H1 a (.lst (.ref b :: vs.set k v))) h3 (fun x hx _ => upd_ne hx) upd_same (by rw [upd_ne (Ne.symm hab)]; exact h4) (h5.set hsh k) h6
    refine kk G1 σ _ (s0.trans s1) (Prot.refl σ) (SOk.put ok1.cov hw (lt_of_get z1) (rl2.sublist (List.Sublist.cons_cons _ (List.Sublist.append_right ?_ _))))
    exact (List.sublist_cons_self _ _).trans (List.sublist_append_right _ _)
  · cases e
end
end O
set_option maxRecDepth 100000
set_option maxHeartbeats 3200000
/-! set(xs) of a list of whole numbers, as a set that can be sorted -/
namespace O
open PySem PySem.Spec PyProof.Rows L2
section
variable {P : Program} {w : World} {A : Around} {E : Value → Shared → Prop} {s : Shared}
abbrev eSet (w : World) : Obj := { cls := .type "set", dict := none, data := .set #[] 0 (.fresh 0 0 (!w.params.followText "set-order")) }
theorem setR_fresh' {h : Heap} {a : Addr} (w : World) (hg : h.get? a = some (eSet w)) : SetR w h a (fun _ => false) 0 :=
  ⟨_, #[], 0, _, hg, ⟨rfl, rfl, rfl⟩, rfl, (fun e he => by simp at he), (by simp), (fun k => by simp), (by decide), (by rfl), rfl, List.Pairwise.nil, by
    show _ ∨ (!w.params.followText "set-order") = true
    cases w.params.followText "set-order"
    · exact .inr rfl
    · exact .inl rfl⟩
/-- a set of the first i numbers -/
def SetUpto (w : World) (h : Heap) (a : Addr) (ns : List Int) (i : Nat) : Prop := ∃ n, n ≤ i ∧ SetR w h a (fun k => decide (k ∈ ns.take i)) n
theorem addLoop {I : Addr} {fp wr : List Addr} {G : Array GenState → Array GenState → Prop} {n : Nat} {Pv : Nat → Value → Prop} {St : Nat → Shared → Prop} {R : Result → Shared → Prop}
    (W : WalksS P w A.in1 I fp wr G n Pv St) (S : Addr) (hSf : S ∉ fp) (ns : List Int) (hval : ∀ i v, Pv i v → ∃ k t, ns[i]? = some k ∧ v = .int k t) (hb : n + 1 < scanBound) :
    ∀ (k i : Nat) (s : Shared), n - i = k → i ≤ n → St i s → SetUpto w s.heap S ns i →
      (∀ s', Moved (S :: wr) G s s' → SetUpto w s'.heap S ns n → R (.ok (.ret .none)) s') →
      codeAny (model P w) A (.builtin "set.update.loop" ⟨[.ref S, .ref I], []⟩) R s := by
  have hSw : S ∉ wr := fun h => hSf (W.sub _ h)
  have up : ∀ b ∈ wr, b ∈ S :: wr := fun b hb => List.mem_cons_of_mem _ hb
  intro k
  induction k with
  | zero =>
    intro i s hk hi hst hS hR
    obtain rfl : i = n := by omega
    refine codeAny_builtin F.entry_set_update_loop ?_
    rw [Around.under_plainId F.plain_set_update_loop _]
    show wpAny _ A.in1 (pyNext (.ref I) >>= _) _ _ s
    refine wpAny_bind (W.done s _ _ hst fun s' hm => ?_)
    show wpAny _ A.in1 (ret Value.none) _ _ s'
    obtain ⟨m, hm1, r⟩ := hS
    exact wpAny_pure (hR s' (hm.mono up) ⟨m, hm1, r.at fun o e => hm.heap S o hSw e⟩)
  | succ k ih =>
    intro i s hk hi hst hS hR
    have hlt : i < n := by omega
    refine codeAny_builtin F.entry_set_update_loop ?_
    rw [Around.under_plainId F.plain_set_update_loop _]
    show wpAny _ A.in1 (pyNext (.ref I) >>= _) _ _ s
    refine wpAny_bind (W.item i s _ _ hlt hst fun v s' hP hst' hm => ?_)
    obtain ⟨x, t, hx, rfl⟩ := hval i v hP
    obtain ⟨m, hm1, r⟩ := hS
    have r' : SetR w s'.heap S (fun k => decide (k ∈ ns.take i)) m := r.at fun o e => hm.heap S o hSw e
    show wpAny _ A.in1 (holding [Value.int x t] (setAdd S (.int x t)) >>= _) _ _ s'
    refine wpAny_bind (wpAny_holding ?_)
    unfold setAdd
    refine wpAny_holding ?_
    refine wpAny_bind ((intKind P w).pyHash (k := x) (intKind_is _ _ _ _) ?_)
    refine setR_add_hashed (s := { s' with toks := s'.toks + 1 }) r' (by omega) fun h' hsb r2 => ?_
    have e2 : ∀ j, decide (j ∈ ns.take (i + 1)) = (decide (j ∈ ns.take i) || decide (j = x)) := fun j => by
      rw [take_next hx]
      simp
    have r3 : SetUpto w h' S ns (i + 1) := ⟨_, by split <;> omega, r2.congr e2⟩
    refine wpAny_pure ⟨plainId_quiet F.plain_set_update_loop _, ih (i + 1) _ (by omega) hlt (W.frame _ s' _ _ hst' (Nat.le_succ _) fun b hb o e => ?_) r3 fun s'' hm'' hS'' => ?_⟩
    · rw [hsb.2 b (fun h : b = S => hSf (by rw [← h]; exact hb))]; exact e
    · refine hR s'' (Moved.trans W.gtrans ((hm.mono up).then_heap (Nat.le_succ _) fun b o hb e => ?_) hm'') hS''
      rw [hsb.2 b (fun h : b = S => hb (by rw [h]; exact List.mem_cons_self))]; exact e

set_option maxRecDepth 100000 in
set_option maxHeartbeats 6400000 in
theorem set_of_ints {l : Addr} {items : Array Value} {ns : List Int} {Q : Value → Shared → Prop} (hh : A.handled = none) (hl : s.heap.IsList l items) (hi : IntsAre items.toList ns) (hb : items.size + 1 < scanBound)
    (h : ∀ (h' : Heap) (tk : Nat) (n : Nat), n ≤ items.size → SetR w h' s.heap.objs.size (fun k => decide (k ∈ ns)) n → (∀ b o, s.heap.get? b = some o → h'.get? b = some o) → Q (.ref s.heap.objs.size) { s with heap := h', toks := tk }) :
    wpAny (model P w) A (call (.type "set") [.ref l]) Q E s := by
  have hlen : items.size = ns.length := by rw [← Array.length_toList]; exact hi.length
  obtain ⟨c, tl, hmro⟩ := F.called_set.mro
  have hmade := F.called_set.made
  have hsub := F.called_set.sub
  refine wpAny_call (codeAny_of_tree ?_)
  show wpAny _ _ (callAny (.type "set") _) _ _ _
  refine wpAny_pure ⟨Code.quiet_builtin _ (by decide +kernel), codeAny_builtin F.entry_type_call ?_⟩
  rw [Around.under_plain (weight_type_call_type "set" [.ref l] []) rfl]
  have h1 := F.called_set.notType
  have h2 := F.called_set.canCreate
  have hct := F.typeCall_set_1 (.ref l)
  repeat (any_goals (first | assumption | wp_step))
  refine codeAny_mono (code_set_led1 (.ref l) (E := E) (Q₁ := fun obj s₁ => obj = .ref s.heap.objs.size ∧ s₁ = { s with heap := s.heap.push (eSet w) }) ⟨rfl, rfl⟩) fun r s₁ hr => ?_
  cases r with
  | error e => exact hr
  | ok fl =>
    cases fl with
    | ret obj =>
      obtain ⟨rfl, rfl⟩ := hr
      have hS : (s.heap.push (eSet w)).get? s.heap.objs.size = some (eSet w) := Heap.get?_push_size _ rfl
      have hT : Shared.TypeIs { s with heap := s.heap.push (eSet w) } (.ref s.heap.objs.size) "set" := ⟨_, hS, rfl⟩
      have hli := F.called_set.init.lookup
      have hbi := F.called_set.init.bind (.ref s.heap.objs.size)
      repeat (any_goals (first | assumption | wp_step))
      refine codeAny_mono (codeAny_call_builtin (R := wants (fun r s₂ => r = .none ∧ ∃ h' tk, s₂ = { s with heap := h', toks := tk } ∧ SetUpto w h' s.heap.objs.size ns items.size ∧ (∀ b o, s.heap.get? b = some o → h'.get? b = some o)) E) F.called_set.init.plain F.entry_set_init (check_set_init_1 hT ?_)) fun r₂ s₂ hr₂ => ?_
      · obtain ⟨ol, hol, hcl, nl, hdl⟩ := hl
        obtain ⟨ocls, odict, odata, oslots⟩ := ol
        simp only at hcl hdl
        subst hcl; subst hdl
        have hol' : (s.heap.push (eSet w)).get? l = some { cls := .type "list", dict := odict, data := .seq items nl, slots := oslots } := Heap.get?_push_of_some _ hol
        have hsls := F.sub_list_set
        have hslf := F.sub_list_frozenset
        have hne : (Value.type "list" == Value.type "dict") = false := by decide
        have hl1 : (s.heap.push (eSet w)).IsList l items := ⟨_, hol', rfl, nl, rfl⟩
        unfold Builtin.«set.__init__» noKeywords Builtin.Frozenset.updateFrom
        generalize hPI : pyIter = PI
        wp_walk
        subst hPI
        refine wpAny_pyIter_list hl1 ?_
        refine wpAny_bind (wpAny_runValue ?_)
        have hlS : l < s.heap.objs.size := Heap.lt_size hol
        have hh3 : A.in1.in1.in1.handled = none := by simp [hh]
        have hneI : l ≠ (s.heap.push (eSet w)).objs.size := by
          rw [Heap.size_push]; exact Nat.ne_of_lt (Nat.lt_succ_of_lt hlS)
        have hSf : s.heap.objs.size ∉ [(s.heap.push (eSet w)).objs.size, l] := by
          rw [Heap.size_push]; simp only [List.mem_cons, List.not_mem_nil, or_false, not_or]
          exact ⟨Nat.ne_of_lt (Nat.lt_succ_self _), Nat.ne_of_gt hlS⟩
        have hval : ∀ (i : Nat) (v : Value), items[i]? = some v → ∃ k t, ns[i]? = some k ∧ v = .int k t := fun i v hv => by
          have hlt : i < items.size := by
            obtain ⟨q, _⟩ := Array.getElem?_eq_some_iff.mp hv
            exact q
          obtain ⟨t, e⟩ := IntsAre.int_at hi i v (by rw [Array.getElem?_toList]; exact hv)
          have hn : i < ns.length := by omega
          exact ⟨ns[i], t, by simp [hn], by rw [e]; congr 1; simp [hn]⟩
        refine addLoop ((Walks.list hh3 _ l hneI items).toS) s.heap.objs.size hSf ns hval hb (items.size - 0) 0 _ (by omega) (Nat.zero_le _)
          ⟨⟨_, Heap.get?_push_size _ rfl, rfl, rfl⟩, (hl1.push _)⟩ ?hS0 ?hR
        case hS0 => exact ⟨0, Nat.le_refl _, (setR_fresh' w (Heap.get?_push_of_some _ hS)).congr fun k => by simp⟩
        case hR =>
          intro s' hm hS'
          obtain ⟨h', g', d', tk', os'⟩ := s'
          have eg : g' = s.gens := hm.gens
          have ed : d' = s.drawn := hm.drawn
          have eo : os' = s.os := hm.os
          subst eg; subst ed; subst eo
          show wpAny _ _ _ _ _ _
          refine wpAny_pure ?_
          show wpAny _ _ (ret Value.none) _ _ _
          refine wpAny_pure ⟨rfl, h', tk', rfl, hS', fun b o e => ?_⟩
          have hb := Heap.lt_size e
          have hb1 : b ≠ s.heap.objs.size := Nat.ne_of_lt hb
          have hb2 : b ≠ (s.heap.push (eSet w)).objs.size := by
            rw [Heap.size_push]; exact Nat.ne_of_lt (Nat.lt_succ_of_lt hb)
          exact hm.heap b o (by simp only [List.mem_cons, List.not_mem_nil, or_false, not_or]; exact ⟨hb1, hb2⟩) (Heap.get?_push_of_some _ (Heap.get?_push_of_some _ e))
      · cases r₂ with
        | error e => exact hr₂
        | ok fl₂ =>
          cases fl₂ with
          | ret r =>
            obtain ⟨rfl, h', tk, rfl, ⟨m, hm1, r⟩, hk'⟩ := hr₂
            repeat (any_goals (first | assumption | wp_step))
            refine h _ _ m hm1 (r.congr fun k => ?_) hk'
            rw [hlen, List.take_length]
          | _ => exact hr₂.elim
    | _ => exact hr.elim
end
end O
set_option maxRecDepth 100000
set_option maxHeartbeats 1000000
namespace O
open PySem PySem.Spec PyProof.Rows L2
/-! ### what a law draws -/
def tailD (n : Int) : Int × Int :=
  let first := (n * 48271 + 17) % 2147483629
  let second := (first * 69621 + 5) % 2147483587
  let n' := (second * 40692 + 3) % 2147483563
  (first * 4611686014132420609 + second * 2147483647 + n', n')
def sizeD (cell : Int) : Int := if 0 ≤ cell then 2 * cell else -2 * cell - 1
def loadD (es : List D) (n : Int) : M (Int × List D × Int) := match es with
  | [] => .ok ((tailD n).1, [], (tailD n).2)
  | .int cell :: es => if 1000000000000000000 ≤ sizeD cell then .ok (sizeD cell, es, n) else
    let n1 := (n * 69621 + sizeD cell * 48271 + 11) % 2147483647
    .ok ((tailD n1).1, es, (tailD n1).2)
  | _ => stk
def m_load : SemF := fun rs => match rs with
  | [(.bx, .list [.list es, .int n1, .int n2])] => do
    let (r, es', n') ← loadD es n2
    pure ((.sh, .int r), [(.bx, .list [.list es', .int n1, .int n'])])
  | _ => stk
section
variable {P : Program} {w : World} {K : PySem.W.Frag} {mg : Str → Option Value} {base : Heap} {c : Gh}
/-- a def by a reading of its own -/
theorem calRaw {x : Str} {st : Stmt} {f : Addr} {fd : FuncData} {cd : Addr} {N ps : List Str} {k n : Nat} {io : List Nat} {sem : SemF} (F : DefC K mg x st f fd cd) (b : Binds K fd ps []) (S : FnScope N ps (C8.fnScope st)) (hn : ps.length = n)
    (hb : ∀ (A : Around) (outer : List Env) (s : Shared) (H : Hp) (E : XK), Room k (A.deeper (envOfC x (C8.fnScope st) s.heap.objs.size f (.ref cd))) → ∃ t, PSs (cxOf C8.CX0 P w K mg base N x (C8.fnScope st) f (.ref cd) A outer s H E).nox (C8.fnBody st) t ∧
      ∀ (vs : List V) (Q : VK), spD c n io sem vs H Q E → t { nx := fun _ H' => Q .non H', rt := Q } (L2.start N vs) H) :
    C8.Cal P w K mg base (k + 1) x (spD c n io sem) [] := by
  obtain ⟨oc, od, dV, kV, doc, pm, an, ct, osl, rfl, lk, hcd⟩ := F.fn
  refine ⟨f, _, ps, [], fn_of lk hcd S (fun vs H Q E h => ?_) (fun A outer s H vs Q E hr h => ?_), F.mgf, F.kp, b, .nil⟩
  · obtain ⟨G, R, rs, _, _, hl, _⟩ := h
    rw [hl, hn]
  · obtain ⟨t, h1, h2⟩ := hb A outer s H E hr
    exact ⟨t, h1.nox, h2 vs Q h⟩
end
end O
set_option maxRecDepth 100000
set_option maxHeartbeats 2000000
namespace O
open PySem PySem.Spec PyProof.Rows L2
theorem bt_min : bootBuiltins "min" = some (.builtin "min") := by decide +kernel
theorem bt_max : bootBuiltins "max" = some (.builtin "max") := by decide +kernel
section
variable {X : Cx} {c : Gh} {P : List Nat} {pos : Pos}
/-! min, max of two; gcd -/
def semMin2 : SemN := fun rs => match rs with
  | [(_, .int i), (_, .int j)] => .ok (.sh, .int (if j < i then j else i))
  | _ => stk
def semMax2 : SemN := fun rs => match rs with
  | [(_, .int i), (_, .int j)] => .ok (.sh, .int (if j > i then j else i))
  | _ => stk
def semGcd : SemN := fun rs => match rs with
  | [(_, .int i), (_, .int j)] => .ok (.sh, .int (Nat.gcd i.natAbs j.natAbs : Nat))
  | _ => stk
theorem c_min2 (hc : X.calm = true) : CallR X (.builtin "min") (rND c semMin2) := by
  intro pins s σ H xs us Q I rv h
  obtain ⟨G, L, rs, r, rl, hv, e, k⟩ := h
  unfold semMin2 at e
  split at e
  · obtain ⟨v, w, rfl, ha, hb⟩ := views2 hv
    cases e
    exact call_min2 hc pins s σ H _ us Q I rv ⟨_, _, by rw [int_of rl ha, int_of rl hb], r2_end rl k rfl (.int _)⟩
  · cases e
theorem c_max2 (hc : X.calm = true) : CallR X (.builtin "max") (rND c semMax2) := by
  intro pins s σ H xs us Q I rv h
  obtain ⟨G, L, rs, r, rl, hv, e, k⟩ := h
  unfold semMax2 at e
  split at e
  · obtain ⟨v, w, rfl, ha, hb⟩ := views2 hv
    cases e
    exact call_max2 hc pins s σ H _ us Q I rv ⟨_, _, by rw [int_of rl ha, int_of rl hb], r2_end rl k rfl (.int _)⟩
  · cases e
theorem c_gcd : CallR X (.builtin "math.gcd") (rND c semGcd) := by
  intro pins s σ H xs us Q I rv h
  obtain ⟨G, L, rs, r, rl, hv, e, k⟩ := h
  unfold semGcd at e
  split at e
  · obtain ⟨v, w, rfl, ha, hb⟩ := views2 hv
    cases e
    exact cr_gcd pins s σ H _ us Q I rv ⟨_, _, by rw [int_of rl ha, int_of rl hb], r2_end rl k rfl (.int _)⟩
  · cases e
/-- a call of a built-in function that the module brought in by name -/
theorem de_callM {id : String} {sem : SemN} {x : Str} {e : Expr} {es : List Expr} {f : FA} {p pos : Pos} (hc : CallR X (.builtin id) (rND c sem)) (hg : Gl X x) (hm : X.mg x = some (.builtin id)) (ha : PA X (e :: es) (tA c f)) (hdb : (x == ("__debug__" : Str)) = false := by decide)
    (he : starEach (e :: es) X.env = (false, eval e X.env) :: starEach es X.env := by rfl) (hpl : (backTo pos (starEach es X.env)).any (·.1) = false := by rfl) : PE X (.Call (.Name x p) (e :: es) [] pos) (tE c (fN sem f)) :=
  pemono (pe_callBfun hc hg hm ha hdb he hpl) fun _ _ _ h => n_read h
/-! sorted(set(xs)) -/
def tSortSet (K : PySem.W.Frag) (ta : TE) : TE := fun σ H Q => ta σ H fun x H1 => ∃ (l : Addr) (ns : List Int), x = .ref l ∧ SqL K H1 l (ns.map V.int) ∧ ns.length < 64 ∧
  ∀ (out : List Int) (p : Addr), out.Pairwise (· < ·) → (∀ k, k ∈ out ↔ k ∈ ns) → H1 p = none → Q (.ref p) (upd H1 p (.lst (out.map V.int)))
theorem pe_sortSet {a : Expr} {ta : TE} {p p2 q pos : Pos} (hc : X.calm = true) (hg : Gl X "sorted") (hm : X.mg "sorted" = none) (hg2 : Gl X "set") (hm2 : X.mg "set" = none) (ha : PE X a ta)
    (na : starEach [a] X.env = (false, eval a X.env) :: starEach [] X.env := by rfl) : PE X (.Call (.Name "sorted" p) [.Call (.Name "set" p2) [a] [] q] [] pos) (tSortSet X.K ta) := by
  refine ⟨fun pins s σ H Q I h => ?_⟩
  refine Call_ (ld_blt I hg hm boot_sorted ?_)
  refine PyProof.Rows.callWith_builtin1 (PyProof.Rows.args_cons ?_ rfl) rfl rfl
  refine Call_ (ld_blt I hg2 hm2 PyProof.Rows.boot_set ?_)
  refine PyProof.Rows.callWith_type1 (PyProof.Rows.args_cons (thn (ha.run pins s σ H _ I h) fun v s1 ⟨x, H1, I1, r1, q1⟩ => PyProof.Rows.args_nil ?_) na) na rfl
  obtain ⟨l, ns, rfl, hq, hl, q1⟩ := q1
  cases r1
  obtain ⟨its, r, pl, hz⟩ := I1.list hq
  have hlen : its.toArray.size = ns.length := by rw [List.size_toArray, ← r.length, List.length_map]
  refine set_of_ints (I1.ok.hd hc) pl.isList (ns := ns) (by simpa using intsAre_of r) (by rw [hlen]; unfold scanBound; omega) fun h' tk n hn hS hk => ?_
  refine PyProof.Rows.args_nil ?_
  have I2 : Inv X pins σ H1 { s1 with heap := h', toks := tk } := I1.kept hk
  have hS2 : SetR X.w ({ s1 with heap := h', toks := tk } : Shared).heap s1.heap.objs.size (fun k => decide (k ∈ ns)) n := hS
  have hd2 := I1.ok.hd hc
  generalize ({ s1 with heap := h', toks := tk } : Shared) = s2 at I2 hS2 ⊢
  refine sorted_set (s := s2) hS2 hd2 (by omega) fun s' p out cc ns' k g o hp hg' hi hs hm' hl' => ?_
  have hlen2 : (ns'.map V.int).length ≤ sizeLine := by rw [List.length_map, hl', sizeLine_eq]; omega
  have hnp : H1 p = none := I2.hok.fresh hp
  have J : Inv X pins σ (upd H1 p (.lst (ns'.map V.int))) { s2 with heap := s'.heap, gens := s'.gens, drawn := s'.drawn, toks := s'.toks } :=
    I2.call (ch := []) (Un.laid k hp hnp) (I2.hok.laid k hp ⟨hlen2, out.toList, cc, vals_of_ints hi, hg'⟩) (by rw [g]; exact I2.bare) (fun _ z => nomatch z)
  have e : s' = { s2 with heap := s'.heap, gens := s'.gens, drawn := s'.drawn, toks := s'.toks } := by
    cases s'
    cases s2
    cases o
    rfl
  rw [e]
  exact ⟨.ref p, _, J, rfl, q1 ns' p hs (fun k => by rw [hm' k]; simp) hnp⟩
/-- in order, each once -/
def insD (i : Int) : List Int → List Int
  | [] => [i]
  | j :: js => if i < j then i :: j :: js else if i = j then j :: js else j :: insD i js
def sortD (ns : List Int) : List Int := ns.foldr insD []
theorem insD_mem {i k : Int} : ∀ {l : List Int}, k ∈ insD i l ↔ k = i ∨ k ∈ l
  | [] => by simp [insD]
  | j :: js => by
    unfold insD
    split
    · simp
    · split
      · rename_i h; subst h; simp
      · rw [List.mem_cons, insD_mem, List.mem_cons]
        exact ⟨fun h => by rcases h with h | h | h <;> simp [h], fun h => by rcases h with h | h | h <;> simp [h]⟩
theorem insD_lt {i : Int} : ∀ {l : List Int}, l.Pairwise (· < ·) → (insD i l).Pairwise (· < ·)
  | [], _ => by simp [insD]
  | j :: js, h => by
    obtain ⟨h1, h2⟩ := List.pairwise_cons.mp h
    unfold insD
    split
    · rename_i hij
      refine List.pairwise_cons.mpr ⟨fun y hy => ?_, h⟩
      rcases List.mem_cons.mp hy with rfl | hy
      · exact hij
      · have := h1 y hy; omega
    · split
      · exact h
      · rename_i h3 h4
        refine List.pairwise_cons.mpr ⟨fun y hy => ?_, insD_lt h2⟩
        rcases insD_mem.mp hy with rfl | hy
        · omega
        · exact h1 y hy
theorem sortD_lt (ns : List Int) : (sortD ns).Pairwise (· < ·) := by
  induction ns with
  | nil => exact .nil
  | cons n ns ih => exact insD_lt ih
theorem sortD_mem {ns : List Int} {k : Int} : k ∈ sortD ns ↔ k ∈ ns := by
  induction ns with
  | nil => simp [sortD]
  | cons n ns ih =>
    show k ∈ insD n (sortD ns) ↔ _
    rw [insD_mem, ih, List.mem_cons]
theorem lt_unique : ∀ {xs ys : List Int}, xs.Pairwise (· < ·) → ys.Pairwise (· < ·) → (∀ k, k ∈ xs ↔ k ∈ ys) → xs = ys
  | [], [], _, _, _ => rfl
  | [], y :: ys, _, _, h => absurd ((h y).2 List.mem_cons_self) (by simp)
  | x :: xs, [], _, _, h => absurd ((h x).1 List.mem_cons_self) (by simp)
  | x :: xs, y :: ys, a, b, h => by
    obtain ⟨a1, a2⟩ := List.pairwise_cons.mp a
    obtain ⟨b1, b2⟩ := List.pairwise_cons.mp b
    have e : x = y := by
      rcases List.mem_cons.mp ((h x).1 List.mem_cons_self) with e | hx
      · exact e
      · rcases List.mem_cons.mp ((h y).2 List.mem_cons_self) with e | hy
        · exact e.symm
        · have := a1 y hy; have := b1 x hx; omega
    subst e
    rw [lt_unique a2 b2 fun k => ⟨fun hk => ?_, fun hk => ?_⟩]
    · rcases List.mem_cons.mp ((h k).1 (List.mem_cons_of_mem _ hk)) with e | z
      · have := a1 k hk; omega
      · exact z
    · rcases List.mem_cons.mp ((h k).2 (List.mem_cons_of_mem _ hk)) with e | z
      · have := b1 k hk; omega
      · exact z
def fSortSet (f : FE) : FE := fun S => do
  let (r, S1) ← f S
  let ds ← kidsL r
  let ns ← intsOf ds
  if ns.length < 64 then pure ((.ow .sh, .list ((sortD ns).map .int)), S1) else stk
theorem dq_ints {K : PySem.W.Frag} {G : Hp} : ∀ ns : List Int, DqAll K G (ns.map V.int) (ns.map PyData.int)
  | [] => .nil
  | n :: ns => .cons (.int n) (dq_ints ns)
theorem de_sortSet (hK : c.K = X.K) {a : Expr} {f : FE} {p p2 q pos : Pos} (hc : X.calm = true) (hg : Gl X "sorted") (hm : X.mg "sorted" = none) (hg2 : Gl X "set") (hm2 : X.mg "set" = none) (ha : PE X a (tE c f))
    (na : starEach [a] X.env = (false, eval a X.env) :: starEach [] X.env := by rfl) : PE X (.Call (.Name "sorted" p) [.Call (.Name "set" p2) [a] [] q] [] pos) (tE c (fSortSet f)) := by
  refine pemono (pe_sortSet hc hg hm hg2 hm2 ha na) fun σ H Q h => ?_
  obtain ⟨G, S, R, ok, r, S', e, k⟩ := h
  obtain ⟨⟨r1, S1⟩, e1, e⟩ := bind_ok e
  obtain ⟨ds, e2, e⟩ := bind_ok e
  obtain ⟨ns, e3, e⟩ := bind_ok e
  split at e
  · rename_i hl
    cases e
    refine ⟨G, S, R, ok, _, _, e1, fun G1 v H1 s1 ok1 => ?_⟩
    have hv : View c G1 H1 r1 v := ok1.rel.view (List.mem_append_left _ List.mem_cons_self)
    obtain ⟨l, vs, rfl, h1, h2⟩ := kidsL_ok ok1.rel hv e2
    rw [ints_vals h2 e3] at h1
    refine ⟨l, ns, rfl, .inl (.inl h1), hl, fun out p ho hm hp => ?_⟩
    have eo : out = sortD ns := lt_unique ho (sortD_lt ns) fun k => by rw [hm k, sortD_mem]
    rw [eo]
    refine k G1 _ _ s1 ⟨ok1.cov, ?_⟩
    exact (ok1.rel.drop).new_lst hp (dq_ints _)
  · cases e
/-! a, b = x, y and a, b, c = x, y, z: plain local names -/
theorem ds_par2 {i j : Nat} {x y : Str} {a b : Expr} {f : FA} {px py pt : Pos} {kt k2 pt2} (hN : X.N.Nodup) (ha : PA X [a, b] (tA c f)) (hc : X.calm = true := by rfl) (hi : X.N[i]? = some x := by rfl) (hj : X.N[j]? = some y := by rfl) (hij : i ≠ j := by decide)
    (hx : X.env.scope.names.lookup x = some .local := by rfl) (hy : X.env.scope.names.lookup y = some .local := by rfl)
    (hw : swappedStores [.Tuple [.Name x px, .Name y py] kt pt] (.Tuple [a, b] k2 pt2) X.env = pure (some [x, y]) := by rfl)
    (hs : swapsWithSole [.Tuple [.Name x px, .Name y py] kt pt] (.Tuple [a, b] k2 pt2) pos.line X.env = pure false := by rfl) (hP : P.all (fun z => z != i) = true := by rfl) (hP2 : P.all (fun z => z != j) = true := by rfl) :
    PS X (.Assign [.Tuple [.Name x px, .Name y py] kt pt] (.Tuple [a, b] k2 pt2) pos) (tS c P (sPar i j f)) :=
  ds_par hN ha (ps_par hc hN hi hj hij hx hy ha hw hs) hij hP hP2
def sPar3 (i j l : Nat) (f : FA) : FS := fun S => do
  let (ts, S1) ← f S
  match ts with
  | [.val r, .val q, .val t] => pure (.nx, ((S1.set i (some r)).set j (some q)).set l (some t))
  | _ => stk
theorem ds_par3 {i j l : Nat} {x y z : Str} {a b d : Expr} {f : FA} {px py pz pt : Pos} {kt k2 pt2} (hN : X.N.Nodup) (ha : PA X [a, b, d] (tA c f)) (hc : X.calm = true := by rfl) (hi : X.N[i]? = some x := by rfl) (hj : X.N[j]? = some y := by rfl) (hl : X.N[l]? = some z := by rfl) (hij : i ≠ j := by decide) (hil : i ≠ l := by decide) (hjl : j ≠ l := by decide)
    (hx : X.env.scope.names.lookup x = some .local := by rfl) (hy : X.env.scope.names.lookup y = some .local := by rfl) (hz : X.env.scope.names.lookup z = some .local := by rfl)
    (hw : swappedStores [.Tuple [.Name x px, .Name y py, .Name z pz] kt pt] (.Tuple [a, b, d] k2 pt2) X.env = pure (some [x, y, z]) := by rfl)
    (hs : swapsWithSole [.Tuple [.Name x px, .Name y py, .Name z pz] kt pt] (.Tuple [a, b, d] k2 pt2) pos.line X.env = pure false := by rfl) (hP : P.all (fun z => z != i) = true := by rfl) (hP2 : P.all (fun z => z != j) = true := by rfl) (hP3 : P.all (fun z => z != l) = true := by rfl) :
    PS X (.Assign [.Tuple [.Name x px, .Name y py, .Name z pz] kt pt] (.Tuple [a, b, d] k2 pt2) pos) (tS c P (sPar3 i j l f)) := psmono (L2.ps_par3 hc hN hi hj hl hij hil hjl hx hy hz ha hw hs) fun D σ H h => by
  obtain ⟨G, S, R, ok, fl, S', e, k⟩ := h
  obtain ⟨⟨ts, S1⟩, e1, e⟩ := bind_ok e
  dsimp only at e
  split at e
  · rename_i r q t
    cases e
    refine ⟨G, S, R, ok, _, _, e1, fun G1 vs H1 s1 h1 ok1 => ?_⟩
    cases h1 with
    | cons h1 h2 =>
      cases h2 with
      | cons h2 h3 =>
        cases h3 with
        | cons h3 h4 =>
        cases h4
        rename_i v w u
        refine ⟨v, w, u, rfl, k G1 _ H1 s1 (((Prot.set hP).trans (Prot.set hP2)).trans (Prot.set hP3)) ?_⟩
        have ok2 : SOk c G1 H1 σ S1 ((r.1, v, r.2) :: (q.1, w, q.2) :: (t.1, u, t.2) :: R) := ok1
        exact ((ok2.store i).store j).store l
  · cases e
end
section
variable {P : Program} {w : World} {K : PySem.W.Frag} {mg : Str → Option Value} {base : Heap} {c : Gh}
/-- a def that nobody calls -/
theorem calVoid {x : Str} {st : Stmt} {f : Addr} {fd : FuncData} {cd : Addr} {N ps : List Str} {k n : Nat} {io : List Nat} (F : DefC K mg x st f fd cd) (b : Binds K fd ps []) (S : FnScope N ps (C8.fnScope st)) (hn : ps.length = n) :
    C8.Cal P w K mg base (k + 1) x (spD c n io fun _ => stk) [] :=
  calRaw F b S hn fun A outer s H E hr => ⟨fun _ _ _ => False, ⟨fun _ _ _ _ _ _ h => h.elim⟩, fun vs Q h => by
    obtain ⟨G, R, rs, _, _, _, r, fs, e, _⟩ := h
    cases e⟩
end
end O
namespace O
open PySem PySem.Spec PyProof.Rows L2
section
variable {X : Cx} {c : Gh} {P : List Nat}
/-- a statement that is not come to -/
def sVoid : FS := fun _ => stk
theorem ds_void {st : Stmt} : PS X st (tS c P sVoid) := ⟨fun _ _ _ _ _ _ h => by
  obtain ⟨G, S, R, ok, fl, S', e, _⟩ := h
  cases e⟩
end
end O
set_option maxRecDepth 100000
set_option maxHeartbeats 2000000
/-! the end, with the tables of all defs of the view -/
namespace O
open PySem PySem.Spec PyProof.Rows L2
/-- every def of the view stands with an empty table -/
def TabsOf (q : Program) (K : PySem.W.Frag) (mg : Str → Option Value) (h : Heap) : Prop := ∀ (x : Str) (f : Addr), ((recsOf q).any fun e => e.name == x) = true → mg x = some (.ref f) → LamX.OwnTab K f h
theorem walk_ofTabs {l : PySem.W.OpenLaw} {n k : Nat} {q : Program} {loose : List Str} {XP : (Str → Option Value) → Heap → Prop} {YP : World → Heap → Prop} {d : DefRec} {K : Params → PySem.W.Frag} {CX : World → CXT} {x : Str}
    (hn : l.most = some n) (hn2 : n ≤ sizeLine) (hdf : d.params.defaults = []) (hr : Room k callerA) (hY : ∀ (w : World) (h : Heap), YP w h → (K w.params).In h)
    (F : ∀ (w : World) (mg : Str → Option Value) (fa : Addr) (h : Heap), YP w h → (K w.params).In h → h.Ns mainGlobals mg → mg d.name = some (.ref fa) → TabsOf q (K w.params) mg h → LamX.LawAtS l w (K w.params) (CX w) k n x mg fa h)
    (hCX : ∀ (w : World) (H : Hp) (s : Shared) (e : Value) (s' : Shared), CX w [] H s (fun _ _ _ => False) e s' → False) :
    PySem.W.WalkO q loose XP YP l.row.toRowW d [] (fun f vs => PySem.call f vs) := by
  refine Att.attach_callB hn hdf fun w s₀ s₁ mg mb fa o pm cd doc a vs ns G Y ho hd hcd hmg hobj hints hlen hbits hg => ?_
  have KX := hY w _ Y
  have own : TabsOf q (K w.params) mg s₁.heap := fun x f hx hf c P o1 fd1 e dd vs1 sl k1 k2 k3 k4 k5 => by
    obtain ⟨dL, hm, hn1⟩ := List.any_eq_true.mp hx
    have hn2 : dL.name = x := beq_iff_eq.mp hn1
    obtain ⟨a', o', fd', c', P', h1, h2, h3, h4, h5, h6⟩ := G.T.tab dL hm
    rw [hn2, hf] at h1
    cases h1
    have g1 := KX _ _ k1
    rw [g1] at h2
    cases h2
    rw [k2] at h3
    cases h3
    rw [k3] at h4
    cases h4
    obtain ⟨⟨oc, vc, e1, _, e3, e4⟩, hP⟩ := h6
    have g2 := KX _ _ k4
    rw [g2] at e1
    cases e1
    cases e3
    rw [k5] at e4
    cases e4
    exact hP
  obtain ⟨fd, cs, sp, hT, nT, C, hb, hsp, hF⟩ := F w mg fa _ Y KX G.T.g hmg own
  exact LamX.law_callTs KX G.T.g G.T.b G.T.builtins G.T.nolimit hg hT nT C G.T.bmain hobj hints (Nat.le_trans hlen hn2) hr hF hb (fun H hH hS => hsp H a ns hlen hbits hH hS) fun H e s' => hCX w H s₁ e s'
/-- a code object of the written part with a table at P -/
def codeV (vs : Array Value) (c P : Addr) : Bool := match (vs[11]? : Option Value), (vs.getD 11 Value.none : Value), (vs.getD 18 Value.none : Value), (vs.getD 7 Value.none : Value), (vs.getD 9 Value.none : Value), (vs.getD 10 Value.none : Value) with
    | some (.ref p), .ref p', .str _ _, .int _ _, .bool _, .int _ _ => p == P && p' == P && c != P
    | _, _, _, _, _, _ => false
def codeB (K : PySem.W.Frag) (c P : Addr) : Bool := match K.lookup c with
  | some ⟨.type "code", _, .fields vs, _⟩ => codeV vs c P
  | _ => false
theorem codeB_hd {K : PySem.W.Frag} {c P : Addr} {h : Heap} (X : K.In h) (b : codeB K c P = true) : PySem.W.CodeHd h c P ∧ ∃ e dd vs sl, K.lookup c = some ⟨e, dd, .fields vs, sl⟩ ∧ vs[11]? = some (.ref P) := by
  unfold codeB at b
  split at b
  · rename_i dd vs sl hl
    unfold codeV at b
    split at b
    · rename_i h1 h2 h3 h4 h5 h6
      simp only [Bool.and_eq_true, beq_iff_eq, bne_iff_ne] at b
      obtain ⟨⟨rfl, rfl⟩, hne⟩ := b
      exact ⟨⟨_, vs, _, _, _, _, _, _, _, X _ _ hl, rfl, rfl, h1, h2, h3, h4, h5, h6, hne⟩, _, _, _, _, hl, h1⟩
    · cases b
  · cases b
/-- a def of the view with its code object and the table -/
theorem tab_of {q : Program} {K : PySem.W.Frag} {mg : Str → Option Value} {h : Heap} (X : K.In h) (T : TabsOf q K mg h) {x : Str} {f c P : Addr} {o : Obj} {fd : FuncData} (hx : ((recsOf q).any fun e => e.name == x) = true) (hf : mg x = some (.ref f)) (l : K.lookup f = some o) (hd : o.data = .func fd) (hc : fd.code = .ref c) (b : codeB K c P = true) :
    h.get? P = some { cls := .none, data := .fields #[] } ∧ PySem.W.CodeHd h c P := by
  obtain ⟨C, e, dd, vs, sl, h1, h2⟩ := codeB_hd X b
  exact ⟨T x f hx hf c P o fd e dd vs sl l hd hc h1 h2, C⟩
end O
set_option maxRecDepth 100000
set_option maxHeartbeats 4000000
namespace O
open PySem PySem.Spec PyProof.Rows L2
/-! the reading of `_law_load` -/
abbrev rInt1 : List V → Hp → VK → Prop := fun xs H Q => (∃ i, xs = [V.int i] ∧ Q (V.int i) H) ∨ ∃ k, xs = [V.bl k] ∧ Q (V.int (if k = true then 1 else 0)) H
abbrev tInt1 (t : TE) : TE := tCB rInt1 (tCons t tNil)
abbrev tMul : TE → TE → TE := tOp (rI CMul fun i j => V.int (i * j))
abbrev tAdd : TE → TE → TE := tOp (rI0 fun i j => V.int (i + j))
abbrev tMod : TE → TE → TE := tOp (rI (fun x j => 0 < j) fun i j => V.int (i % j))
abbrev tI (i : Int) : TE := tC (.int i)
theorem modR {j : Int} (h : 0 < j := by decide) : 0 < j := h
def tTail (K : PySem.W.Frag) : TS :=
  tSeq (tAsg (tMod (tInt1 (tAdd (tMul (tOp (rIxL K) (tVar 0) (tI 2)) (tI 48271)) (tI 17))) (tI 2147483629)) (gName 4))
  (tSeq (tAsg (tMod (tInt1 (tAdd (tMul (tVar 4) (tI 69621)) (tI 5))) (tI 2147483587)) (gName 5))
  (tSeq (tAsg (tMod (tInt1 (tAdd (tMul (tVar 5) (tI 40692)) (tI 3))) (tI 2147483563)) (gSub (tVar 0) (tI 2) rSetL))
  (tRet (tAdd (tAdd (tMul (tVar 4) (tI 4611686014132420609)) (tMul (tVar 5) (tI 2147483647))) (tOp (rIxL K) (tVar 0) (tI 2))))))
theorem mulR {i j : Int} (h : -2 ^ 64 < j ∧ j < 2 ^ 64 := by decide) : CMul i j := .inr h
theorem tail_ok {K : PySem.W.Frag} {a b : Addr} {n1 n : Int} {x2 x3 x4 x5 : Option V} {H : Hp} {D : Ends} {sb : V} (h : H a = some (.lst [sb, .int n1, .int n]))
    (k : D.rt (.int (tailD n).1) (upd H a (.lst [sb, .int n1, .int (tailD n).2]))) : tTail K D [some (.ref a), some (.ref b), x2, x3, x4, x5] H := by
  refine ⟨.ref a, rfl, a, _, 2, .int n, rfl, rfl, .inl (.inl h), rfl, _, _, rfl, rfl, mulR, _, _, rfl, rfl, .inl ⟨_, rfl, _, _, rfl, rfl, modR, ?_⟩⟩
  refine ⟨_, rfl, _, _, rfl, rfl, mulR, _, _, rfl, rfl, .inl ⟨_, rfl, _, _, rfl, rfl, modR, ?_⟩⟩
  refine ⟨_, rfl, _, _, rfl, rfl, mulR, _, _, rfl, rfl, .inl ⟨_, rfl, _, _, rfl, rfl, modR, ?_⟩⟩
  refine ⟨.ref a, rfl, a, _, 2, 2, rfl, rfl, h, rfl, ?_⟩
  refine ⟨_, rfl, _, _, rfl, rfl, mulR, _, rfl, _, _, rfl, rfl, mulR, _, _, rfl, rfl, .ref a, rfl, a, _, 2, _, rfl, rfl, .inl (.inl upd_same), rfl, _, _, rfl, rfl, ?_⟩
  exact k
def tLoad (K : PySem.W.Frag) : TS :=
  tSeq (tAsg (tOp (rIxL K) (tVar 0) (tI 0)) (gName 1))
  (tSeq (tIfS (tTest (tOp (rI0 fun i j => V.bl (decide (j < i))) (tCB (fun xs H Q => ∃ p ys, xs = [V.ref p] ∧ (SqL K H p ys ∨ SqT K H p ys) ∧ Q (V.int ↑ys.length) H) (tCons (tVar 1) tNil)) (tI 0)))
    (tSeq (tAsg (tInt1 (tBM K "list" rPopAt (tVar 1) (tCons (tI 0) tNil))) (gName 2))
    (tSeq (tAsg (tIf (tTest (tOp (rI0 fun i j => V.bl (decide (j ≤ i))) (tVar 2) (tI 0))) (tMul (tI 2) (tVar 2)) (tOp (rI0 fun i j => V.int (i - j)) (tMul (tUn (rU fun i => V.int (-i)) (tI 2)) (tVar 2)) (tI 1))) (gName 3))
    (tSeq (tIfS (tTest (tOp (rI0 fun i j => V.bl (decide (j ≤ i))) (tVar 3) (tI 1000000000000000000))) (tRet (tVar 3)) tNext)
    (tAsg (tMod (tInt1 (tAdd (tAdd (tMul (tOp (rIxL K) (tVar 0) (tI 2)) (tI 69621)) (tMul (tVar 3) (tI 48271))) (tI 11))) (tI 2147483647)) (gSub (tVar 0) (tI 2) rSetL)))))
    tNext)
  (tTail K))
theorem load_ok {K : PySem.W.Frag} {c : Gh} {vs : List V} {H : Hp} {Q : VK} {E : XK} {D : Ends} (hK : c.K = K) (hD : D.rt = Q) (h : spD c 1 [0] m_load vs H Q E) : tLoad K D (L2.start ["box", "cells", "cell", "size", "first", "second"] vs) H := by
  subst hK hD
  obtain ⟨G, R, rs, rl, hl, hv, r, fs, e, k⟩ := h
  unfold m_load at e
  split at e
  · rename_i es n1 n2
    obtain ⟨⟨ro, es', n'⟩, e0, e⟩ := bind_ok e
    cases e
    match vs, hv with
    | [v], _ =>
      have rl : Rel c G H ((.bx, v, .list [.list es, .int n1, .int n2]) :: R) := rl
      obtain ⟨a, b, us, ws, ds, es0, rfl, hd, h3, h4, h5, h6, hab⟩ := rl.bx_of
      cases hd
      cases h5 with
      | cons q1 h5 =>
      cases h5 with
      | cons q2 h5 =>
      cases h5
      cases q1
      cases q2
      refine ⟨.ref a, rfl, a, _, 0, .ref b, rfl, rfl, .inl (.inl h3), rfl, ?_⟩
      refine ⟨.ref b, rfl, b, ws, rfl, .inl (.inl (.inl h4)), _, _, rfl, rfl, _, rfl, ?_⟩
      unfold loadD at e0
      split at e0
      · cases e0
        cases h6
        refine tail_ok h3 ?_
        refine k G _ _ (Sub.refl G) ?_
        show Rel c G _ ((.sh, _, _) :: (.bx, .ref a, _) :: R)
        refine Rel.put_sh ?_ (.int _)
        exact Rel.bx_write rl h3 (fun x hx _ => upd_ne hx) upd_same (by rw [upd_ne (Ne.symm hab)]; exact h4) (.cons (.int _) (.cons (.int _) .nil)) .nil
      · rename_i cell es1 rl0
        cases h6 with
        | cons q3 h6 =>
        rename_i w ws1
        cases q3
        have hlt : decide ((0 : Int) < ((V.int cell :: ws1).length : Int)) = true := by simp
        rw [if_pos hlt]
        have hp : (upd H b (.lst ws1)) a = some (.lst [.ref b, .int n1, .int n2]) := by rw [upd_ne hab]; exact h3
        refine ⟨.ref b, rfl, .inl ⟨rfl, _, .inl (.inl h4)⟩, b, V.int cell :: ws1, 0, 0, .int cell, rfl, rfl, h4, by decide, by decide, by unfold seqIndex?; simp, rfl, .inl ⟨_, rfl, ?_⟩⟩
        refine ⟨.int cell, rfl, _, _, rfl, rfl, _, rfl, ?_⟩
        have hs : ∀ (Z : VK), Z (.int (sizeD cell)) (upd H b (.lst ws1)) → (if decide ((0 : Int) ≤ cell) = true then tMul (tI 2) (tVar 2) [some (.ref a), some (.ref b), some (.int cell), none, none, none] (upd H b (.lst ws1)) Z else tOp (rI0 fun i j => V.int (i - j)) (tMul (tUn (rU fun i => V.int (-i)) (tI 2)) (tVar 2)) (tI 1) [some (.ref a), some (.ref b), some (.int cell), none, none, none] (upd H b (.lst ws1)) Z) := by
          intro Z hZ
          by_cases q : 0 ≤ cell
          · rw [if_pos (by simpa using q)]
            refine ⟨_, rfl, _, _, rfl, rfl, .inl (by decide), ?_⟩
            unfold sizeD at hZ
            rw [if_pos q] at hZ
            exact hZ
          · rw [if_neg (by simpa using q)]
            refine ⟨_, rfl, _, rfl, _, _, rfl, rfl, .inl (by decide), _, _, rfl, rfl, ?_⟩
            unfold sizeD at hZ
            rw [if_neg q] at hZ
            exact hZ
        refine hs _ ?_
        refine ⟨_, rfl, _, _, rfl, rfl, _, rfl, ?_⟩
        split at e0
        · rename_i hbig
          cases e0
          rw [if_pos (by simpa using hbig)]
          refine ⟨_, rfl, ?_⟩
          refine k G _ _ (Sub.refl G) ?_
          show Rel c G _ ((.sh, _, _) :: (.bx, .ref a, _) :: R)
          refine Rel.put_sh ?_ (.int _)
          exact Rel.bx_write rl h3 (fun x _ hx => upd_ne hx) hp upd_same (.cons (.int _) (.cons (.int _) .nil)) h6
        · rename_i hbig
          cases e0
          rw [if_neg (by simpa using hbig)]
          refine ⟨.ref a, rfl, a, _, 2, _, rfl, rfl, .inl (.inl hp), rfl, _, _, rfl, rfl, mulR, _, rfl, _, _, rfl, rfl, mulR, _, _, rfl, rfl, _, _, rfl, rfl, .inl ⟨_, rfl, _, _, rfl, rfl, modR, ?_⟩⟩
          refine ⟨.ref a, rfl, a, _, 2, 2, rfl, rfl, hp, rfl, ?_⟩
          refine tail_ok upd_same ?_
          refine k G _ _ (Sub.refl G) ?_
          show Rel c G _ ((.sh, _, _) :: (.bx, .ref a, _) :: R)
          refine Rel.put_sh ?_ (.int _)
          exact Rel.bx_write rl h3 (fun x hx1 hx2 => by rw [upd_ne hx1, upd_ne hx1, upd_ne hx2]) upd_same (by rw [upd_ne (Ne.symm hab), upd_ne (Ne.symm hab)]; exact upd_same) (.cons (.int _) (.cons (.int _) .nil)) h6
      · cases e0
  · cases e
end O
set_option maxRecDepth 100000
set_option maxHeartbeats 2000000
/-! a law's script, its box, its end -/
namespace O
open PySem PySem.Spec PyProof.Rows L2
def boxD (ns : List Int) : D := .list [.list (ns.map .int), .int 0, .int (4711 + ns.length)]
/-- what `_law_box` promises of the script at a -/
def spBox (c : Gh) : Sp := fun vs H Q _ => ∃ (a : Addr) (ns : List Int), vs = [.ref a] ∧ SqL c.K H a (ns.map V.int) ∧ ns.length ≤ 63 ∧ ∃ G, Rel c G H [] ∧ ∀ G' p H', Sub G G' → Rel c G' H' [(.bx, .ref p, boxD ns)] → Q (.ref p) H'
abbrev rLen (K : PySem.W.Frag) : List V → Hp → VK → Prop := fun xs H Q => ∃ p ys, xs = [V.ref p] ∧ (SqL K H p ys ∨ SqT K H p ys) ∧ Q (V.int ↑ys.length) H
abbrev rListOf (K : PySem.W.Frag) : List V → Hp → VK → Prop := fun xs H Q => ∃ p ys, xs = [V.ref p] ∧ (SqL K H p ys ∨ SqT K H p ys) ∧ ∀ l, H l = none → Q (.ref l) (upd H l (.lst ys))
def tBoxL (K : PySem.W.Frag) : TS := tRet (tLst (tCons (tCB (rListOf K) (tCons (tSl (rSlL K) (tVar 0) tNoPart (tPart (tC (.int 63)))) tNil)) (tCons (tC (.int 0)) (tCons (tOp (rI0 fun i j => V.int (i + j)) (tC (.int 4711)) (tCB (rLen K) (tCons (tVar 0) tNil))) tNil))))
theorem cut63 {vs : List V} (h : vs.length ≤ 63) : cutV vs none (some 63) = vs := by
  unfold cutV
  rw [show HT.sIx vs.length vs.length (some 63) = min 63 vs.length from HT.sIx_nat vs.length vs.length 63, HT.sIx_none, List.drop_zero, Nat.sub_zero, Nat.min_eq_right h, List.take_length]
theorem sq_upd {K : PySem.W.Frag} {H : Hp} {a p : Addr} {xs : List V} {o : HO} (h : SqL K H a xs) (hp : H p = none) : SqL K (upd H p o) a xs := SqL.sub (Sub.upd hp) h
theorem box_ok {c : Gh} {vs : List V} {H : Hp} {Q : VK} {E : XK} {D : Ends} (hD : D.rt = Q) (h : spBox c vs H Q E) : tBoxL c.K D (L2.start ["script"] vs) H := by
  subst hD
  obtain ⟨a, ns, rfl, hS, hl, G, rl, k⟩ := h
  have hc := cut63 (vs := ns.map V.int) (by rw [List.length_map]; exact hl)
  refine ⟨.ref a, rfl, _, rfl, a, _, rfl, hS, fun s hs => ⟨s, ns.map V.int, rfl, .inl (.inl (.inl (by rw [upd_same]; exact congrArg (fun z => some (HO.lst z)) hc))), fun b hb => ?_⟩⟩
  have r1 : Rel c G (upd H s (.lst (cutV (ns.map V.int) none (some 63)))) [] := rl.laid hs
  have r2 := r1.new_lst hb (vs := ns.map V.int) (ds := ns.map .int) (by
    clear hS hl k hc hs hb r1
    induction ns with
    | nil => exact .nil
    | cons n ns ih => exact .cons (.int n) ih)
  refine ⟨.ref a, rfl, a, ns.map V.int, rfl, .inl (sq_upd (sq_upd hS hs) hb), _, _, rfl, rfl, by show 3 ≤ sizeLine; decide, fun p hp => ?_⟩
  refine k G p _ (Sub.refl G) ?_
  have hds : DqAll c.K G [.int 0, .int (4711 + ((ns.map V.int).length : Int))] [.int 0, .int (4711 + ns.length)] := by
    rw [List.length_map]
    exact .cons (.int 0) (.cons (.int _) .nil)
  exact Rel.new_bx (L := []) r2 hp hds
section
variable {P : Program} {w : World} {K : PySem.W.Frag} {mg : Str → Option Value} {base : Heap} {c : Gh}
/-- the law: its first statement lays the box, the rest is told by f -/
def spLaw (c : Gh) : Sp := fun vs H Q _ => ∃ (a : Addr) (ns : List Int), vs = [.ref a] ∧ SqL c.K H a (ns.map V.int) ∧ ns.length ≤ 63 ∧ ∃ G, Rel c G H [] ∧ ∀ H', Q (.bl true) H'
def runLaw (m : Nat) (f : FS) (ns : List Int) : M MV := do
  let (fl, _) ← f (none :: some (.bx, boxD ns) :: List.replicate m none)
  flR fl
def tLawB (c : Gh) (f : FS) : TS := tSeq (tAsg (tCall (spBox c) [] E0 (tCons (tVar 0) tNil)) (gName 1)) (tS c [] f)
theorem law_ok {f : FS} {m : Nat} {N : List Str} (hN : N.length = m + 2) {vs : List V} {H : Hp} {Q : VK} {E : XK} (hf : ∀ ns : List Int, ns.length ≤ 63 → runLaw m f ns = .ok (.sh, .bool true)) (h : spLaw c vs H Q E) : tLawB c f { nx := fun _ H' => Q .non H', rt := Q } (L2.start N vs) H := by
  obtain ⟨a, ns, rfl, hS, hl, G, rl, k⟩ := h
  have e0 : L2.start N [.ref a] = some (.ref a) :: none :: List.replicate m none := by
    unfold L2.start
    rw [hN]
    rfl
  rw [e0]
  refine ⟨.ref a, rfl, a, ns, rfl, hS, hl, G, rl, fun G' p H' s r => ?_⟩
  have e := hf ns hl
  obtain ⟨⟨fl, S'⟩, e1, e⟩ := bind_ok e
  refine ⟨G', _, [], ⟨⟨by simp, fun i x e => ?_⟩, ?_⟩, fl, S', e1, ?_⟩
  · match i with
    | 0 => simp at e
    | 1 => exact ⟨.ref p, rfl⟩
    | i + 2 =>
      simp only [List.getElem?_cons_succ] at e
      rw [List.getElem?_replicate] at e
      split at e <;> simp at e
  · have : prs (List.set (some (V.ref a) :: none :: List.replicate m none) 1 (some (.ref p))) (none :: some (.bx, boxD ns) :: List.replicate m none) = [(.bx, .ref p, boxD ns)] := by
      show List.filterMap one ((some (V.ref a), none) :: (some (V.ref p), some (Md.bx, boxD ns)) :: (List.replicate m none).zip (List.replicate m none)) = _
      have z : ∀ m : Nat, List.filterMap one (((List.replicate m none : List (Option V)).zip (List.replicate m none : SS))) = [] := fun m => by
        induction m with
        | zero => rfl
        | succ m ih => simp only [List.replicate_succ, List.zip_cons_cons, List.filterMap_cons, one_none, ih]
      simp only [List.filterMap_cons, one, z]
    rw [this]
    exact r
  · cases fl with
    | rt r0 =>
      cases e
      intro G1 v σ1 H1 s1 p1 ok1
      have hv : Dq c.K G1 v (.bool true) := sh_dq (ok1.rel.view (List.mem_append_left _ List.mem_cons_self))
      cases hv
      exact k H1
    | nx => cases e
    | bk => cases e
    | ct => cases e
/-- a def by a reading of its own, any promise -/
theorem fnAny {x : Str} {st : Stmt} {f : Addr} {fd : FuncData} {cd : Addr} {N ps : List Str} {k : Nat} {sp : Sp} (F : DefC K mg x st f fd cd) (S : FnScope N ps (C8.fnScope st)) (len : ∀ vs H Q E, sp vs H Q E → vs.length = ps.length)
    (hb : ∀ (A : Around) (outer : List Env) (s : Shared) (H : Hp) (E : XK), Room k (A.deeper (envOfC x (C8.fnScope st) s.heap.objs.size f (.ref cd))) → ∃ t, PSs (cxOf C8.CX0 P w K mg base N x (C8.fnScope st) f (.ref cd) A outer s H E).nox (C8.fnBody st) t ∧
      ∀ (vs : List V) (Q : VK), sp vs H Q E → t { nx := fun _ H' => Q .non H', rt := Q } (L2.start N vs) H) : FnOk P w K mg base C8.CX0 (k + 1) f fd ps sp := by
  obtain ⟨oc, od, dV, kV, doc, pm, an, ct, osl, rfl, lk, hcd⟩ := F.fn
  refine fn_of lk hcd S len fun A outer s H vs Q E hr h => ?_
  obtain ⟨t, h1, h2⟩ := hb A outer s H E hr
  exact ⟨t, h1.nox, h2 vs Q h⟩
theorem calAny {x : Str} {st : Stmt} {f : Addr} {fd : FuncData} {cd : Addr} {N ps : List Str} {k : Nat} {sp : Sp} (F : DefC K mg x st f fd cd) (b : Binds K fd ps []) (S : FnScope N ps (C8.fnScope st)) (len : ∀ vs H Q E, sp vs H Q E → vs.length = ps.length)
    (hb : ∀ (A : Around) (outer : List Env) (s : Shared) (H : Hp) (E : XK), Room k (A.deeper (envOfC x (C8.fnScope st) s.heap.objs.size f (.ref cd))) → ∃ t, PSs (cxOf C8.CX0 P w K mg base N x (C8.fnScope st) f (.ref cd) A outer s H E).nox (C8.fnBody st) t ∧
      ∀ (vs : List V) (Q : VK), sp vs H Q E → t { nx := fun _ H' => Q .non H', rt := Q } (L2.start N vs) H) : C8.Cal P w K mg base (k + 1) x sp [] :=
  ⟨f, _, ps, [], fnAny F S len hb, F.mgf, F.kp, b, .nil⟩
end
end O
set_option maxRecDepth 100000
set_option maxHeartbeats 2000000
namespace O
open PySem PySem.Spec PyProof.Rows L2
/-- constants of the written part, by a look -/
def allB (f : Value → D → Bool) : List Value → List D → Bool
  | [], [] => true
  | v :: vs, d :: ds => f v d && allB f vs ds
  | _, _ => false
def dqB (K : PySem.W.Frag) : Nat → Value → D → Bool
  | _, .none, .none => true
  | _, .bool b, .bool e => b == e
  | _, .int i _, .int j => i == j
  | _, .str x _, .str y => x == y
  | n + 1, .ref a, .tuple ds => match K.lookup a with
    | some ⟨.type "tuple", _, .seq its _, _⟩ => decide (its.size ≤ sizeLine) && allB (dqB K n) its.toList ds
    | _ => false
  | _, _, _ => false
theorem allB_ok {K : PySem.W.Frag} {f : Value → D → Bool} (hf : ∀ v d, f v d = true → ∃ w, RelV w v ∧ ∀ G, Dq K G w d) : ∀ {vs : List Value} {ds : List D}, allB f vs ds = true → ∃ ws, Vals ws vs ∧ ∀ G, DqAll K G ws ds
  | [], [], _ => ⟨[], .nil, fun _ => .nil⟩
  | [], _ :: _, h => by cases h
  | _ :: _, [], h => by cases h
  | v :: vs, d :: ds, h => by
    unfold allB at h
    rw [Bool.and_eq_true] at h
    obtain ⟨w, r, q⟩ := hf v d h.1
    obtain ⟨ws, rs, qs⟩ := allB_ok hf h.2
    exact ⟨w :: ws, .cons r rs, fun G => .cons (q G) (qs G)⟩
theorem dqB_ok {K : PySem.W.Frag} : ∀ (n : Nat) (v : Value) (d : D), dqB K n v d = true → ∃ w, RelV w v ∧ ∀ G, Dq K G w d := by
  intro n
  induction n with
  | zero =>
    intro v d h
    unfold dqB at h
    split at h
    · exact ⟨.non, rfl, fun _ => .non⟩
    · have := eq_of_beq h; subst this; exact ⟨.bl _, rfl, fun _ => .bl _⟩
    · have := eq_of_beq h; subst this; exact ⟨.int _, ⟨_, rfl⟩, fun _ => .int _⟩
    · have := eq_of_beq h; subst this; exact ⟨.str _, ⟨_, rfl⟩, fun _ => .str _⟩
    · omega
    · cases h
  | succ n ih =>
    intro v d h
    unfold dqB at h
    split at h
    · exact ⟨.non, rfl, fun _ => .non⟩
    · have := eq_of_beq h; subst this; exact ⟨.bl _, rfl, fun _ => .bl _⟩
    · have := eq_of_beq h; subst this; exact ⟨.int _, ⟨_, rfl⟩, fun _ => .int _⟩
    · have := eq_of_beq h; subst this; exact ⟨.str _, ⟨_, rfl⟩, fun _ => .str _⟩
    · rename_i a ds e
      cases e
      split at h
      · rename_i dd its m sl hl
        rw [Bool.and_eq_true, decide_eq_true_eq] at h
        obtain ⟨ws, rs, qs⟩ := allB_ok (fun v d => ih v d) h.2
        exact ⟨.ref a, rfl, fun G => .tup (.inr ⟨_, its, m, hl, rfl, rfl, h.1, rs⟩) (qs G)⟩
      · cases h
    · cases h
theorem glob_of {K : PySem.W.Frag} {h : Heap} {mg : Str → Option Value} {x : Str} {v : Value} {d : D} (X : K.In h) (G : h.Ns mainGlobals mg) (a : PySem.W.nsIn K mainGlobals x = some (some v)) (b : dqB K 9 v d = true) : ∃ w u, mg x = some u ∧ RelV w u ∧ ∀ G, Dq K G w d := by
  obtain ⟨w, r, q⟩ := dqB_ok 9 v d b
  exact ⟨w, v, PySem.W.mg_of X G a, r, q⟩
/-- nothing is held at the start -/
theorem rel0 {K : PySem.W.Frag} {T : List Addr} {H : Hp} (h : ∀ P ∈ T, H P = some (.tbl #[])) : Rel ⟨K, T, fun _ => none⟩ (fun _ => none) H [] :=
  ⟨fun _ _ e => (nomatch (show (none : Option HO) = some _ from e)), fun _ _ e => (nomatch (show (none : Option HO) = some _ from e)), fun a o e => (nomatch (show (none : Option HO) = some o from e)), fun P hP => ⟨#[], h P hP, trivial⟩, [], .nil, List.nodup_nil, fun a ha => absurd ha (by simp)⟩
theorem tabB_of {base : Heap} {mg : Str → Option Value} {c P : Addr} (h : LamX.TabB base mg c P) : GxR.TabB base mg c P := ⟨h.code, h.bm, h.gP⟩
end O
set_option maxRecDepth 100000
set_option maxHeartbeats 1000000
/-! exceptions: raise X(), isinstance(e, (A, B, ..)) -/
namespace O
open PySem PySem.Spec PyProof.Rows L2
section
variable {X : Cx} {C : Addr} {bmB : List Value} {B newId initId : String}
/-- X() -/
theorem pmk_own0 {x : Str} {p pos : Pos} (F : ExcBaseFacts B newId initId bmB) (q : PySem.W.excIn X.K C bmB newId = true) (gC : X.mg x = some (.ref C)) (kC : PySem.W.keepIn X.K (.ref C) = true) (r : Raises X (.ref C)) (hg : Gl X x)
    (hdb : (x == ("__debug__" : Str)) = false := by decide) : L2.PMk X (.Call (.Name x p) [] [] pos) (fun _ H Q => Q (.ref C) none H) := by
  intro pins s σ H Q I h
  refine wpAny_Call_Name_kw (ld_glob I hg gC ?_ hdb)
  refine PySem.W.callWith_K0 I.kIn kC ?_
  show wpAny _ _ (call (.ref C) []) _ _ _
  obtain ⟨bm, N, nm, qn, bs, hdct, sn, sub, ab, col, dd, k0, k1, k2, k3, k5, mN, hC, hN, hni, T⟩ := exc_obj I.kIn q
  refine wpAny_call_exc_subT F T hC hN hni (fun h' e hm => ?_) (Nat.zero_le _)
  exact L2.mk_of I hm r h (I.hok.gone hm.new)
end
/-- isinstance(e, (A, B, ..)), e the exception that the suite holds -/
def rIsET (K : PySem.W.Frag) (D a : Addr) : List V → Hp → VK → Prop := fun xs H Q => ∃ (tp : Addr) (cs : List V) (us : List Value) (b : Bool), xs = [.ref a, .ref tp] ∧ H tp = some (.tup cs) ∧ Paired ClsV cs us ∧ PySem.W.kitAny K (.ref D) us = some b ∧ Q (.bl b) H
theorem call_isET {X : Cx} {a D : Addr} {oe : Obj} {pn : List (Addr × Obj)} (C : ExcC X.K D) (hz : Zc (.ref D) none oe) (hf : ∃ vs, oe.data = .fields vs) : CallR (X.suite a ((a, oe) :: pn)) (.builtin "isinstance") (rIsET X.K D a) := by
  intro pins s σ H xs us Q I r h
  obtain ⟨tp, cs, ws, b, rfl, hT, k, e, q⟩ := h
  cases r with
  | cons rx rr =>
    cases rr with
    | cons rt rr =>
      cases rr
      cases rx
      rename_i u2
      cases (show u2 = Value.ref tp from rt)
      obtain ⟨hget, _⟩ := I.pin (a, oe) (List.mem_append.mpr (.inl List.mem_cons_self))
      obtain ⟨vs, hv⟩ := hf
      have J : PySem.W.InstAt s.heap a oe D none := by
        obtain ⟨oc, od, oda, osl⟩ := oe
        obtain ⟨h1, h2⟩ := hz
        dsimp only at h1 h2 hv
        subst h1 h2 hv
        exact ⟨hget, rfl, rfl, trivial⟩
      obtain ⟨_, its, rv, o, h1, h2, n, h3⟩ := (show ObjOk X.prog X.w H s.heap tp (.tup cs) from I.hok tp _ hT)
      have e3 := ClsV.all k rv
      subst e3
      obtain ⟨oc, od, dt, sl⟩ := o
      simp only at h2 h3
      subst h2 h3
      exact PySem.W.kia_tup (PySem.W.handS_kitx_exc C.hg C.hk C.hs C.hd C.ha C.hn C.ht C.hm) I.kIn J h1 e (fun z => nomatch z) fun tk => ⟨.bl b, H, I.kept (t' := tk) fun _ _ z => z, rfl, q⟩
end O
set_option maxRecDepth 100000
set_option maxHeartbeats 4000000
namespace Yk65
open PySem PySem.Spec PyProof.Rows L2 O
abbrev topS (i : Nat) : Stmt := PySem.Challenge.pw_backtohand_k65_ratios_and_scales.main.body.getD i (.Pass ⟨0, 0, 0, 0⟩)
def k_MAX_STEPS : D := .int 12
def k_MAX_WORTH : D := .int 1000000000
def k_NOTHING : D := .tuple [.int 0, .int 1]
def k_ONE : D := .tuple [.int 1, .int 1]
structure Lw (K : PySem.W.Frag) (mg : Str → Option Value) (c : Gh) : Prop where
  hK : c.K = K
  z_abs : mg "abs" = none
  z_all : mg "all" = none
  z_bool : mg "bool" = none
  z_enumerate : mg "enumerate" = none
  z_int : mg "int" = none
  z_isinstance : mg "isinstance" = none
  z_len : mg "len" = none
  z_list : mg "list" = none
  z_max : mg "max" = none
  z_min : mg "min" = none
  z_range : mg "range" = none
  z_set : mg "set" = none
  z_sorted : mg "sorted" = none
  z_str : mg "str" = none
  z_tuple : mg "tuple" = none
  i_gcd : mg "gcd" = some (.builtin "math.gcd")
  g_MAX_STEPS : ∃ v u, mg "MAX_STEPS" = some u ∧ RelV v u ∧ ∀ G, Dq c.K G v k_MAX_STEPS
  g_MAX_WORTH : ∃ v u, mg "MAX_WORTH" = some u ∧ RelV v u ∧ ∀ G, Dq c.K G v k_MAX_WORTH
  g_NOTHING : ∃ v u, mg "NOTHING" = some u ∧ RelV v u ∧ ∀ G, Dq c.K G v k_NOTHING
  g_ONE : ∃ v u, mg "ONE" = some u ∧ RelV v u ∧ ∀ G, Dq c.K G v k_ONE
variable {P : Program} {w : World} {K : PySem.W.Frag} {mg : Str → Option Value} {base : Heap} {c : Gh}
/-! is_number -/
abbrev s_is_number : Stmt := topS 9
theorem sc_is_number : FnScope ["value", "least", "most"] ["value", "least", "most"] (C8.fnScope s_is_number) := ⟨rfl, rfl, rfl, by decide +kernel, rfl, by decide +kernel, by decide +kernel⟩
def b_is_number : FS :=
  sRet (fAndV (fO1 (semIsT .int) (oP 0)) (fAndV (fNotV (fO1 (semIsT .bool) (oP 0))) (fChain semLeI semLeI (oP 1) (oP 0) (oP 2))))
def m_is_number : SemF := runD 3 [] b_is_number
theorem cal_is_number (L : Lw K mg c) {a cd : Addr} {fd : FuncData} (F : DefC K mg "is_number" s_is_number a fd cd) (b : Binds K fd ["value", "least", "most"] [])  : C8.Cal P w K mg base 1 "is_number" (spD c 3 [] m_is_number) [] := by
  have hK := L.hK
  refine calDc F b sc_is_number rfl (by decide) fun A outer s H E hr => ?_
  delta b_is_number
  exact ds_one (ds_ret (de_and (de_isT .int hK (by rfl) L.z_isinstance (by rfl) L.z_int bt_int (do_pk (i := 0))) (de_and (de_not (de_isT .bool hK (by rfl) L.z_isinstance (by rfl) L.z_bool bt_bool (do_pk (i := 0)))) (de_one (de_chain (o_le) (o_le) (do_pk (i := 1)) (do_pk (i := 0)) (do_pk (i := 2)))))))
/-! is_ratio -/
abbrev s_is_ratio : Stmt := topS 11
theorem sc_is_ratio : FnScope ["value", "part"] ["value"] (C8.fnScope s_is_ratio) := ⟨rfl, rfl, rfl, by decide +kernel, rfl, by decide +kernel, by decide +kernel⟩
def b_is_ratio : FS :=
  sSeq (sIf (fOrT (fNotT (tB1 (fO1 (semIsT .tuple) (oP 0)))) (tB1 (fOp2 semNe (oV (fN semLen (aCons (oP 0) (aNil)))) (oV (fCon (.int 2)))))) (sRet (fCon (.bool false))) (sNil)) (
  sSeq (sIf (fNotT (tB1 (fGB false 2 [1] (fiSeq (fVar 0)) (gNm 1) (ftYes) (fAndV (fO1 (semIsT .int) (oP 1)) (fNotV (fO1 (semIsT .bool) (oP 1))))))) (sRet (fCon (.bool false))) (sNil)) (
  sRet (fAndV (fOp2 semGtI (oV (fOp2 semIx (oP 0) (oV (fCon (.int 1))))) (oV (fCon (.int 0)))) (fOp2 semEq (oV (fN semGcd (aCons (oV (fOp2 semIx (oP 0) (oV (fCon (.int 0))))) (aCons (oV (fOp2 semIx (oP 0) (oV (fCon (.int 1))))) (aNil))))) (oV (fCon (.int 1)))))))
def m_is_ratio : SemF := runD 2 [] b_is_ratio
theorem cal_is_ratio (L : Lw K mg c) {a cd : Addr} {fd : FuncData} (F : DefC K mg "is_ratio" s_is_ratio a fd cd) {T : Addr} (TB : GxR.TabB base mg cd T) (hT : T ∈ c.T) (b : Binds K fd ["value"] [])  : C8.Cal P w K mg base 2 "is_ratio" (spD c 1 [] m_is_ratio) [] := by
  have hK := L.hK
  refine calDc F b sc_is_ratio rfl (by decide) fun A outer s H E hr => ?_
  delta b_is_ratio
  exact ds_cons (ds_if (dt_w (dw_or (dt_not (dt_val (de_isT .tuple hK (by rfl) L.z_isinstance (by rfl) L.z_tuple bt_tuple (do_pk (i := 0))))) (dw_or1 (dt_cmp (o_ne (hu hr) hK) (do_val (de_callB (c_len hK) (by rfl) L.z_len bt_len (da_cons (do_pk (i := 0)) (da_nil)))) (do_val (de_int)))))) (ds_one (ds_ret (de_bl))) (ds_nil)) (
    ds_cons (ds_if (dt_not (dt_val (de_allG (n := 2) (own := [("part", 1)]) ⟨TB, rfl, hT⟩ hr rfl (by rfl) L.z_all sc_is_ratio.nd (di_seq hK (de_var (i := 0))) (blkOk_by (N := ["value", "part"]) (sc := C8.fnScope s_is_ratio) (by decide +kernel)) (fun _ _ _ _ _ _ hr => dg_name (i := 1) sc_is_ratio.nd) (fun _ _ _ _ _ _ hr => dts_nil) (fun _ _ _ _ _ _ hr => de_and (de_isT .int hK (by rfl) L.z_isinstance (by rfl) L.z_int bt_int (do_pk (i := 1))) (de_one (de_not (de_isT .bool hK (by rfl) L.z_isinstance (by rfl) L.z_bool bt_bool (do_pk (i := 1))))))))) (ds_one (ds_ret (de_bl))) (ds_nil)) (
    ds_one (ds_ret (de_and (de_cmp (o_gt) (do_val (de_ix hK (do_pk (i := 0)) (do_val (de_int)))) (do_val (de_int))) (de_one (de_cmp (o_eq (hu hr) hK) (do_val (de_callM c_gcd (by rfl) L.i_gcd (da_cons (do_val (de_ix hK (do_pk (i := 0)) (do_val (de_int)))) (da_cons (do_val (de_ix hK (do_pk (i := 0)) (do_val (de_int)))) (da_nil))))) (do_val (de_int))))))))
/-! ratio -/
abbrev s_ratio : Stmt := topS 12
theorem sc_ratio : FnScope ["p", "q", "common"] ["p", "q"] (C8.fnScope s_ratio) := ⟨rfl, rfl, rfl, by decide +kernel, rfl, by decide +kernel, by decide +kernel⟩
def b_ratio : FS :=
  sSeq (sAsg (gNm 2) (fN semGcd (aCons (oP 0) (aCons (oP 1) (aNil))))) (
  sSeq (sIf (tB1 (fOp2 semLt (oP 1) (oV (fCon (.int 0))))) (sAsg (gNm 2) (fUn semNeg (fVar 2))) (sNil)) (
  sRet (fN semTup (aCons (oV (fSh (fOp2 semFdiv (oP 0) (oP 2)))) (aCons (oV (fSh (fOp2 semFdiv (oP 1) (oP 2)))) (aNil))))))
def m_ratio : SemF := runD 3 [] b_ratio
theorem cal_ratio (L : Lw K mg c) {a cd : Addr} {fd : FuncData} (F : DefC K mg "ratio" s_ratio a fd cd) (b : Binds K fd ["p", "q"] [])  : C8.Cal P w K mg base 1 "ratio" (spD c 2 [] m_ratio) [] := by
  have hK := L.hK
  refine calDc F b sc_ratio rfl (by decide) fun A outer s H E hr => ?_
  delta b_ratio
  exact ds_cons (ds_set (i := 2) sc_ratio.nd (de_callM c_gcd (by rfl) L.i_gcd (da_cons (do_pk (i := 0)) (da_cons (do_pk (i := 1)) (da_nil))))) (
    ds_cons (ds_if (dt_cmp (o_lt (hu hr) hK) (do_pk (i := 1)) (do_val (de_int))) (ds_one (ds_set (i := 2) sc_ratio.nd (de_neg (de_var (i := 2))))) (ds_nil)) (
    ds_one (ds_ret (de_tup (da_cons (do_val (de_sh (de_op (o_fdiv) (do_pk (i := 0)) (do_pk (i := 2))))) (da_cons (do_val (de_sh (de_op (o_fdiv) (do_pk (i := 1)) (do_pk (i := 2))))) (da_nil)))))))
/-! plus -/
abbrev s_plus : Stmt := topS 13
theorem sc_plus : FnScope ["a", "b"] ["a", "b"] (C8.fnScope s_plus) := ⟨rfl, rfl, rfl, by decide +kernel, rfl, by decide +kernel, by decide +kernel⟩
def b_plus : FS :=
  sRet (fCall 2 [] m_ratio (aCons (oV (fOp2 semAdd (oV (fOp2 semMul (oV (fOp2 semIx (oP 0) (oV (fCon (.int 0))))) (oV (fOp2 semIx (oP 1) (oV (fCon (.int 1))))))) (oV (fOp2 semMul (oV (fOp2 semIx (oP 1) (oV (fCon (.int 0))))) (oV (fOp2 semIx (oP 0) (oV (fCon (.int 1))))))))) (aCons (oV (fOp2 semMul (oV (fOp2 semIx (oP 0) (oV (fCon (.int 1))))) (oV (fOp2 semIx (oP 1) (oV (fCon (.int 1))))))) (aNil))))
def m_plus : SemF := runD 2 [] b_plus
theorem cal_plus (L : Lw K mg c) {a cd : Addr} {fd : FuncData} (F : DefC K mg "plus" s_plus a fd cd) (b : Binds K fd ["a", "b"] []) (c_ratio : C8.Cal P w K mg base 1 "ratio" (spD c 2 [] m_ratio) []) : C8.Cal P w K mg base 2 "plus" (spD c 2 [] m_plus) [] := by
  have hK := L.hK
  refine calDc F b sc_plus rfl (by decide) fun A outer s H E hr => ?_
  delta b_plus
  exact ds_one (ds_ret (de_call c_ratio hr (by omega) (by rfl) (da_cons (do_val (de_op (o_add hK) (do_val (de_op (o_mul) (do_val (de_ix hK (do_pk (i := 0)) (do_val (de_int)))) (do_val (de_ix hK (do_pk (i := 1)) (do_val (de_int)))))) (do_val (de_op (o_mul) (do_val (de_ix hK (do_pk (i := 1)) (do_val (de_int)))) (do_val (de_ix hK (do_pk (i := 0)) (do_val (de_int)))))))) (da_cons (do_val (de_op (o_mul) (do_val (de_ix hK (do_pk (i := 0)) (do_val (de_int)))) (do_val (de_ix hK (do_pk (i := 1)) (do_val (de_int)))))) (da_nil)))))
/-! times -/
abbrev s_times : Stmt := topS 14
theorem sc_times : FnScope ["a", "b"] ["a", "b"] (C8.fnScope s_times) := ⟨rfl, rfl, rfl, by decide +kernel, rfl, by decide +kernel, by decide +kernel⟩
def b_times : FS :=
  sRet (fCall 2 [] m_ratio (aCons (oV (fOp2 semMul (oV (fOp2 semIx (oP 0) (oV (fCon (.int 0))))) (oV (fOp2 semIx (oP 1) (oV (fCon (.int 0))))))) (aCons (oV (fOp2 semMul (oV (fOp2 semIx (oP 0) (oV (fCon (.int 1))))) (oV (fOp2 semIx (oP 1) (oV (fCon (.int 1))))))) (aNil))))
def m_times : SemF := runD 2 [] b_times
theorem cal_times (L : Lw K mg c) {a cd : Addr} {fd : FuncData} (F : DefC K mg "times" s_times a fd cd) (b : Binds K fd ["a", "b"] []) (c_ratio : C8.Cal P w K mg base 1 "ratio" (spD c 2 [] m_ratio) []) : C8.Cal P w K mg base 2 "times" (spD c 2 [] m_times) [] := by
  have hK := L.hK
  refine calDc F b sc_times rfl (by decide) fun A outer s H E hr => ?_
  delta b_times
  exact ds_one (ds_ret (de_call c_ratio hr (by omega) (by rfl) (da_cons (do_val (de_op (o_mul) (do_val (de_ix hK (do_pk (i := 0)) (do_val (de_int)))) (do_val (de_ix hK (do_pk (i := 1)) (do_val (de_int)))))) (da_cons (do_val (de_op (o_mul) (do_val (de_ix hK (do_pk (i := 0)) (do_val (de_int)))) (do_val (de_ix hK (do_pk (i := 1)) (do_val (de_int)))))) (da_nil)))))
/-! less -/
abbrev s_less : Stmt := topS 15
theorem sc_less : FnScope ["a", "b"] ["a", "b"] (C8.fnScope s_less) := ⟨rfl, rfl, rfl, by decide +kernel, rfl, by decide +kernel, by decide +kernel⟩
def b_less : FS :=
  sRet (fOp2 semLt (oV (fOp2 semMul (oV (fOp2 semIx (oP 0) (oV (fCon (.int 0))))) (oV (fOp2 semIx (oP 1) (oV (fCon (.int 1))))))) (oV (fOp2 semMul (oV (fOp2 semIx (oP 1) (oV (fCon (.int 0))))) (oV (fOp2 semIx (oP 0) (oV (fCon (.int 1))))))))
def m_less : SemF := runD 2 [] b_less
theorem cal_less (L : Lw K mg c) {a cd : Addr} {fd : FuncData} (F : DefC K mg "less" s_less a fd cd) (b : Binds K fd ["a", "b"] [])  : C8.Cal P w K mg base 1 "less" (spD c 2 [] m_less) [] := by
  have hK := L.hK
  refine calDc F b sc_less rfl (by decide) fun A outer s H E hr => ?_
  delta b_less
  exact ds_one (ds_ret (de_cmp (o_lt (hu hr) hK) (do_val (de_op (o_mul) (do_val (de_ix hK (do_pk (i := 0)) (do_val (de_int)))) (do_val (de_ix hK (do_pk (i := 1)) (do_val (de_int)))))) (do_val (de_op (o_mul) (do_val (de_ix hK (do_pk (i := 1)) (do_val (de_int)))) (do_val (de_ix hK (do_pk (i := 0)) (do_val (de_int))))))))
/-! rounded -/
abbrev s_rounded : Stmt := topS 16
theorem sc_rounded : FnScope ["a"] ["a"] (C8.fnScope s_rounded) := ⟨rfl, rfl, rfl, by decide +kernel, rfl, by decide +kernel, by decide +kernel⟩
def b_rounded : FS :=
  sRet (fOp2 semFdiv (oV (fOp2 semAdd (oV (fOp2 semMul (oV (fCon (.int 2))) (oV (fOp2 semIx (oP 0) (oV (fCon (.int 0))))))) (oV (fOp2 semIx (oP 0) (oV (fCon (.int 1))))))) (oV (fOp2 semMul (oV (fCon (.int 2))) (oV (fOp2 semIx (oP 0) (oV (fCon (.int 1))))))))
def m_rounded : SemF := runD 1 [] b_rounded
theorem cal_rounded (L : Lw K mg c) {a cd : Addr} {fd : FuncData} (F : DefC K mg "rounded" s_rounded a fd cd) (b : Binds K fd ["a"] [])  : C8.Cal P w K mg base 1 "rounded" (spD c 1 [] m_rounded) [] := by
  have hK := L.hK
  refine calDc F b sc_rounded rfl (by decide) fun A outer s H E hr => ?_
  delta b_rounded
  exact ds_one (ds_ret (de_op (o_fdiv) (do_val (de_op (o_add hK) (do_val (de_op (o_mul) (do_val (de_int)) (do_val (de_ix hK (do_pk (i := 0)) (do_val (de_int)))))) (do_val (de_ix hK (do_pk (i := 0)) (do_val (de_int)))))) (do_val (de_op (o_mul) (do_val (de_int)) (do_val (de_ix hK (do_pk (i := 0)) (do_val (de_int))))))))
/-! is_step -/
abbrev s_is_step : Stmt := topS 22
theorem sc_is_step : FnScope ["value"] ["value"] (C8.fnScope s_is_step) := ⟨rfl, rfl, rfl, by decide +kernel, rfl, by decide +kernel, by decide +kernel⟩
def b_is_step : FS :=
  sSeq (sIf (fOrT (fNotT (tB1 (fO1 (semIsT .tuple) (oP 0)))) (fOrT (tB1 (fOp2 semNe (oV (fN semLen (aCons (oP 0) (aNil)))) (oV (fCon (.int 2))))) (fNotT (tB1 (fCall 3 [] m_is_number (aCons (oV (fOp2 semIx (oP 0) (oV (fCon (.int 0))))) (aCons (oV (fCon (.int 0))) (aCons (oV (fCon k_MAX_WORTH)) (aNil))))))))) (sRet (fCon (.bool false))) (sNil)) (
  sRet (fAndV (fCall 1 [] m_is_ratio (aCons (oV (fOp2 semIx (oP 0) (oV (fCon (.int 1))))) (aNil))) (fAndV (fNotV (fCall 2 [] m_less (aCons (oV (fOp2 semIx (oP 0) (oV (fCon (.int 1))))) (aCons (oV (fCon k_NOTHING)) (aNil))))) (fNotV (fCall 2 [] m_less (aCons (oV (fCon k_ONE)) (aCons (oV (fOp2 semIx (oP 0) (oV (fCon (.int 1))))) (aNil))))))))
def m_is_step : SemF := runD 1 [] b_is_step
theorem cal_is_step (L : Lw K mg c) {a cd : Addr} {fd : FuncData} (F : DefC K mg "is_step" s_is_step a fd cd) (b : Binds K fd ["value"] []) (c_is_number : C8.Cal P w K mg base 1 "is_number" (spD c 3 [] m_is_number) []) (c_is_ratio : C8.Cal P w K mg base 2 "is_ratio" (spD c 1 [] m_is_ratio) []) (c_less : C8.Cal P w K mg base 1 "less" (spD c 2 [] m_less) []) : C8.Cal P w K mg base 3 "is_step" (spD c 1 [] m_is_step) [] := by
  have hK := L.hK
  refine calDc F b sc_is_step rfl (by decide) fun A outer s H E hr => ?_
  delta b_is_step
  exact ds_cons (ds_if (dt_w (dw_or (dt_not (dt_val (de_isT .tuple hK (by rfl) L.z_isinstance (by rfl) L.z_tuple bt_tuple (do_pk (i := 0))))) (dw_or (dt_cmp (o_ne (hu hr) hK) (do_val (de_callB (c_len hK) (by rfl) L.z_len bt_len (da_cons (do_pk (i := 0)) (da_nil)))) (do_val (de_int))) (dw_or1 (dt_not (dt_val (de_call c_is_number hr (by omega) (by rfl) (da_cons (do_val (de_ix hK (do_pk (i := 0)) (do_val (de_int)))) (da_cons (do_val (de_int)) (da_cons (do_val (de_glob (d := k_MAX_WORTH) (by rfl) L.g_MAX_WORTH)) (da_nil))))))))))) (ds_one (ds_ret (de_bl))) (ds_nil)) (
    ds_one (ds_ret (de_and (de_call c_is_ratio hr (by omega) (by rfl) (da_cons (do_val (de_ix hK (do_pk (i := 0)) (do_val (de_int)))) (da_nil))) (de_and (de_not (de_call c_less hr (by omega) (by rfl) (da_cons (do_val (de_ix hK (do_pk (i := 0)) (do_val (de_int)))) (da_cons (do_val (de_glob (d := k_NOTHING) (by rfl) L.g_NOTHING)) (da_nil))))) (de_one (de_not (de_call c_less hr (by omega) (by rfl) (da_cons (do_val (de_glob (d := k_ONE) (by rfl) L.g_ONE)) (da_cons (do_val (de_ix hK (do_pk (i := 0)) (do_val (de_int)))) (da_nil))))))))))
/-! is_scale -/
abbrev s_is_scale : Stmt := topS 23
theorem sc_is_scale : FnScope ["value", "step", "k"] ["value"] (C8.fnScope s_is_scale) := ⟨rfl, rfl, rfl, by decide +kernel, rfl, by decide +kernel, by decide +kernel⟩
def b_is_scale : FS :=
  sSeq (sIf (fOrT (fNotT (tB1 (fO1 (semIsT .tuple) (oP 0)))) (fOrT (fNotT (tB1 (fChain semLeI semLeI (oV (fCon (.int 1))) (oV (fN semLen (aCons (oP 0) (aNil)))) (oV (fCon k_MAX_STEPS))))) (fNotT (tB1 (fGB false 3 [1] (fiSeq (fVar 0)) (gNm 1) (ftYes) (fCall 1 [] m_is_step (aCons (oV (fVar 1)) (aNil)))))))) (sRet (fCon (.bool false))) (sNil)) (
  sRet (fAndV (fOp2 semEq (oV (fOp2 semIx (oV (fOp2 semIx (oP 0) (oV (fCon (.int 0))))) (oV (fCon (.int 0))))) (oV (fCon (.int 0)))) (fGB false 3 [2] (fiA (onD rng1) (aCons (oV (fOp2 semSub (oV (fN semLen (aCons (oP 0) (aNil)))) (oV (fCon (.int 1))))) (aNil))) (gNm 2) (ftYes) (fOp2 semLt (oV (fOp2 semIx (oV (fOp2 semIx (oP 0) (oP 2))) (oV (fCon (.int 0))))) (oV (fOp2 semIx (oV (fOp2 semIx (oP 0) (oV (fOp2 semAdd (oP 2) (oV (fCon (.int 1))))))) (oV (fCon (.int 0)))))))))
def m_is_scale : SemF := runD 3 [] b_is_scale
theorem cal_is_scale (L : Lw K mg c) {a cd : Addr} {fd : FuncData} (F : DefC K mg "is_scale" s_is_scale a fd cd) {T : Addr} (TB : GxR.TabB base mg cd T) (hT : T ∈ c.T) (b : Binds K fd ["value"] []) (c_is_step : C8.Cal P w K mg base 3 "is_step" (spD c 1 [] m_is_step) []) : C8.Cal P w K mg base 5 "is_scale" (spD c 1 [] m_is_scale) [] := by
  have hK := L.hK
  refine calDc F b sc_is_scale rfl (by decide) fun A outer s H E hr => ?_
  delta b_is_scale
  exact ds_cons (ds_if (dt_w (dw_or (dt_not (dt_val (de_isT .tuple hK (by rfl) L.z_isinstance (by rfl) L.z_tuple bt_tuple (do_pk (i := 0))))) (dw_or (dt_not (dt_chain (o_le) (o_le) (do_val (de_int)) (do_val (de_callB (c_len hK) (by rfl) L.z_len bt_len (da_cons (do_pk (i := 0)) (da_nil)))) (do_val (de_glob (d := k_MAX_STEPS) (by rfl) L.g_MAX_STEPS)))) (dw_or1 (dt_not (dt_val (de_allG (n := 3) (own := [("step", 1)]) ⟨TB, rfl, hT⟩ hr rfl (by rfl) L.z_all sc_is_scale.nd (di_seq hK (de_var (i := 0))) (blkOk_by (N := ["value", "step", "k"]) (sc := C8.fnScope s_is_scale) (by decide +kernel)) (fun _ _ _ _ _ _ hr => dg_name (i := 1) sc_is_scale.nd) (fun _ _ _ _ _ _ hr => dts_nil) (fun _ _ _ _ _ _ hr => de_call c_is_step hr (by omega) (by rfl) (da_cons (do_val (de_var (i := 1))) (da_nil)))))))))) (ds_one (ds_ret (de_bl))) (ds_nil)) (
    ds_one (ds_ret (de_and (de_cmp (o_eq (hu hr) hK) (do_val (de_ix hK (do_val (de_ix hK (do_pk (i := 0)) (do_val (de_int)))) (do_val (de_int)))) (do_val (de_int))) (de_one (de_allG (n := 3) (own := [("k", 2)]) ⟨TB, rfl, hT⟩ hr rfl (by rfl) L.z_all sc_is_scale.nd (di_rng1 (by rfl) L.z_range (da_cons (do_val (de_op (o_sub) (do_val (de_callB (c_len hK) (by rfl) L.z_len bt_len (da_cons (do_pk (i := 0)) (da_nil)))) (do_val (de_int)))) (da_nil))) (blkOk_by (N := ["value", "step", "k"]) (sc := C8.fnScope s_is_scale) (by decide +kernel)) (fun _ _ _ _ _ _ hr => dg_name (i := 2) sc_is_scale.nd) (fun _ _ _ _ _ _ hr => dts_nil) (fun _ _ _ _ _ _ hr => de_cmp (o_lt (hu hr) hK) (do_val (de_ix hK (do_val (de_ix hK (do_pk (i := 0)) (do_pk (i := 2)))) (do_val (de_int)))) (do_val (de_ix hK (do_val (de_ix hK (do_pk (i := 0)) (do_val (de_op (o_add hK) (do_pk (i := 2)) (do_val (de_int)))))) (do_val (de_int))))))))))
/-! fee -/
abbrev s_fee : Stmt := topS 24
theorem sc_fee : FnScope ["scale", "worth", "total", "k", "end", "part", "start", "rate"] ["scale", "worth"] (C8.fnScope s_fee) := ⟨rfl, rfl, rfl, by decide +kernel, rfl, by decide +kernel, by decide +kernel⟩
def b_fee : FS :=
  sSeq (sAsg (gNm 2) (fCon k_NOTHING)) (
  sSeq (sFor (fiA enumOf (aCons (oV (fVar 0)) (aNil))) (gTp 2 (gsCons (gNm 3) (gsCons (gTp 2 (gsCons (gNm 6) (gsCons (gNm 7) (gsNil)))) (gsNil)))) (sSeq (sAsg (gNm 4) (fIf (tB1 (fOp2 semLt (oV (fOp2 semAdd (oP 3) (oV (fCon (.int 1))))) (oV (fN semLen (aCons (oP 0) (aNil)))))) (fOp2 semIx (oV (fOp2 semIx (oP 0) (oV (fOp2 semAdd (oP 3) (oV (fCon (.int 1))))))) (oV (fCon (.int 0)))) (fCon k_MAX_WORTH))) (
  sSeq (sAsg (gNm 5) (fOp2 semSub (oV (fN semMin2 (aCons (oP 1) (aCons (oP 4) (aNil))))) (oP 6))) (
  sIf (tB1 (fOp2 semGtI (oP 5) (oV (fCon (.int 0))))) (sAsg (gNm 2) (fCall 2 [] m_plus (aCons (oV (fVar 2)) (aCons (oV (fCall 2 [] m_times (aCons (oV (fVar 7)) (aCons (oV (fN semTup (aCons (oV (fVar 5)) (aCons (oV (fCon (.int 1))) (aNil))))) (aNil))))) (aNil))))) (sNil))))) (
  sRet (fTake 2)))
def m_fee : SemF := runD 8 [] b_fee
theorem cal_fee (L : Lw K mg c) {a cd : Addr} {fd : FuncData} (F : DefC K mg "fee" s_fee a fd cd) (b : Binds K fd ["scale", "worth"] []) (c_plus : C8.Cal P w K mg base 2 "plus" (spD c 2 [] m_plus) []) (c_times : C8.Cal P w K mg base 2 "times" (spD c 2 [] m_times) []) : C8.Cal P w K mg base 3 "fee" (spD c 2 [] m_fee) [] := by
  have hK := L.hK
  refine calDc F b sc_fee rfl (by decide) fun A outer s H E hr => ?_
  delta b_fee
  exact ds_cons (ds_set (i := 2) sc_fee.nd (de_glob (d := k_NOTHING) (by rfl) L.g_NOTHING)) (
    ds_cons (ds_for PassesOwn.never rfl (di_enum hK (by rfl) L.z_enumerate (da_cons (do_val (de_var (i := 0))) (da_nil))) (dg_tup hK rfl (dgs_cons (dg_name (i := 3) sc_fee.nd) (dgs_cons (dg_tup hK rfl (dgs_cons (dg_name (i := 6) sc_fee.nd) (dgs_cons (dg_name (i := 7) sc_fee.nd) (dgs_nil)))) (dgs_nil)))) (ds_cons (ds_set (i := 4) sc_fee.nd (de_if (dt_cmp (o_lt (hu hr) hK) (do_val (de_op (o_add hK) (do_pk (i := 3)) (do_val (de_int)))) (do_val (de_callB (c_len hK) (by rfl) L.z_len bt_len (da_cons (do_pk (i := 0)) (da_nil))))) (de_ix hK (do_val (de_ix hK (do_pk (i := 0)) (do_val (de_op (o_add hK) (do_pk (i := 3)) (do_val (de_int)))))) (do_val (de_int))) (de_glob (d := k_MAX_WORTH) (by rfl) L.g_MAX_WORTH))) (
    ds_cons (ds_set (i := 5) sc_fee.nd (de_op (o_sub) (do_val (de_callB (c_min2 rfl) (by rfl) L.z_min bt_min (da_cons (do_pk (i := 1)) (da_cons (do_pk (i := 4)) (da_nil))))) (do_pk (i := 6)))) (
    ds_one (ds_if (dt_cmp (o_gt) (do_pk (i := 5)) (do_val (de_int))) (ds_one (ds_set (i := 2) sc_fee.nd (de_call c_plus hr (by omega) (by rfl) (da_cons (do_val (de_var (i := 2))) (da_cons (do_val (de_call c_times hr (by omega) (by rfl) (da_cons (do_val (de_var (i := 7))) (da_cons (do_val (de_tup (da_cons (do_val (de_var (i := 5))) (da_cons (do_val (de_int)) (da_nil))))) (da_nil))))) (da_nil)))))) (ds_nil)))))) (
    ds_one (ds_ret (de_take (i := 2)))))
/-! fee_cents -/
abbrev s_fee_cents : Stmt := topS 25
theorem sc_fee_cents : FnScope ["scale", "worth"] ["scale", "worth"] (C8.fnScope s_fee_cents) := ⟨rfl, rfl, rfl, by decide +kernel, rfl, by decide +kernel, by decide +kernel⟩
def b_fee_cents : FS :=
  sRet (fCall 1 [] m_rounded (aCons (oV (fCall 2 [] m_fee (aCons (oV (fVar 0)) (aCons (oV (fVar 1)) (aNil))))) (aNil)))
def m_fee_cents : SemF := runD 2 [] b_fee_cents
theorem cal_fee_cents (L : Lw K mg c) {a cd : Addr} {fd : FuncData} (F : DefC K mg "fee_cents" s_fee_cents a fd cd) (b : Binds K fd ["scale", "worth"] []) (c_rounded : C8.Cal P w K mg base 1 "rounded" (spD c 1 [] m_rounded) []) (c_fee : C8.Cal P w K mg base 3 "fee" (spD c 2 [] m_fee) []) : C8.Cal P w K mg base 4 "fee_cents" (spD c 2 [] m_fee_cents) [] := by
  have hK := L.hK
  refine calDc F b sc_fee_cents rfl (by decide) fun A outer s H E hr => ?_
  delta b_fee_cents
  exact ds_one (ds_ret (de_call c_rounded hr (by omega) (by rfl) (da_cons (do_val (de_call c_fee hr (by omega) (by rfl) (da_cons (do_val (de_var (i := 0))) (da_cons (do_val (de_var (i := 1))) (da_nil))))) (da_nil))))
/-! worth_for -/
abbrev s_worth_for : Stmt := topS 26
theorem sc_worth_for : FnScope ["scale", "cents", "low", "high", "middle"] ["scale", "cents"] (C8.fnScope s_worth_for) := ⟨rfl, rfl, rfl, by decide +kernel, rfl, by decide +kernel, by decide +kernel⟩
def b_worth_for : FS :=
  sSeq (sPar 2 3 (aCons (oV (fCon (.int 0))) (aCons (oV (fCon k_MAX_WORTH)) (aNil)))) (
  sSeq (sIf (tB1 (fOp2 semLt (oV (fCall 2 [] m_fee_cents (aCons (oV (fVar 0)) (aCons (oV (fVar 3)) (aNil))))) (oP 1))) (sVoid) (sNil)) (
  sSeq (whileD (tB1 (fOp2 semLt (oP 2) (oP 3))) (sSeq (sAsg (gNm 4) (fOp2 semFdiv (oV (fOp2 semAdd (oP 2) (oP 3))) (oV (fCon (.int 2))))) (
  sIf (tB1 (fOp2 semLt (oV (fCall 2 [] m_fee_cents (aCons (oV (fVar 0)) (aCons (oV (fVar 4)) (aNil))))) (oP 1))) (sAsg (gNm 2) (fOp2 semAdd (oP 4) (oV (fCon (.int 1))))) (sAsg (gNm 3) (fVar 4)))) 1000000) (
  sRet (fTake 2))))
def m_worth_for : SemF := runD 5 [] b_worth_for
theorem cal_worth_for (L : Lw K mg c) {a cd : Addr} {fd : FuncData} (F : DefC K mg "worth_for" s_worth_for a fd cd) (b : Binds K fd ["scale", "cents"] []) (c_fee_cents : C8.Cal P w K mg base 4 "fee_cents" (spD c 2 [] m_fee_cents) []) : C8.Cal P w K mg base 5 "worth_for" (spD c 2 [] m_worth_for) [] := by
  have hK := L.hK
  refine calDc F b sc_worth_for rfl (by decide) fun A outer s H E hr => ?_
  delta b_worth_for
  exact ds_cons (ds_par2 (i := 2) (j := 3) sc_worth_for.nd (da_cons (do_val (de_int)) (da_cons (do_val (de_glob (d := k_MAX_WORTH) (by rfl) L.g_MAX_WORTH)) (da_nil)))) (
    ds_cons (ds_if (dt_cmp (o_lt (hu hr) hK) (do_val (de_call c_fee_cents hr (by omega) (by rfl) (da_cons (do_val (de_var (i := 0))) (da_cons (do_val (de_var (i := 3))) (da_nil))))) (do_pk (i := 1))) (ds_one (ds_void)) (ds_nil)) (
    ds_cons (ds_while 1000000 PassesOwn.never (dt_cmp (o_lt (hu hr) hK) (do_pk (i := 2)) (do_pk (i := 3))) (ds_cons (ds_set (i := 4) sc_worth_for.nd (de_op (o_fdiv) (do_val (de_op (o_add hK) (do_pk (i := 2)) (do_pk (i := 3)))) (do_val (de_int)))) (
    ds_one (ds_if (dt_cmp (o_lt (hu hr) hK) (do_val (de_call c_fee_cents hr (by omega) (by rfl) (da_cons (do_val (de_var (i := 0))) (da_cons (do_val (de_var (i := 4))) (da_nil))))) (do_pk (i := 1))) (ds_one (ds_set (i := 2) sc_worth_for.nd (de_op (o_add hK) (do_pk (i := 4)) (do_val (de_int))))) (ds_one (ds_set (i := 3) sc_worth_for.nd (de_var (i := 4)))))))) (
    ds_one (ds_ret (de_take (i := 2))))))
/-! _law_box -/
abbrev s__law_box : Stmt := topS 28
theorem sc__law_box : FnScope ["script"] ["script"] (C8.fnScope s__law_box) := ⟨rfl, rfl, rfl, by decide +kernel, rfl, by decide +kernel, by decide +kernel⟩
theorem cal__law_box (L : Lw K mg c) {a cd : Addr} {fd : FuncData} (F : DefC K mg "_law_box" s__law_box a fd cd) (b : Binds K fd ["script"] []) : C8.Cal P w K mg base 1 "_law_box" (spBox c) [] := by
  have hK := L.hK
  refine calAny F b sc__law_box (fun vs H Q E h => ?_) fun A outer s H E hr => ⟨tBoxL K, pss_one (ps_ret (pe_lst (pa_cons (pe_callTy call_list_of (by rfl) L.z_list bt_list (pa_cons (pe_slice sl_list (pv 0) po_none (po_some pe_int)) pa_nil)) (pa_cons pe_int (pa_cons (pe_op op_add pe_int (pe_callB call_len_seq (by rfl) L.z_len bt_len (pa_cons (pv 0) pa_nil))) pa_nil))))), fun vs Q h => ?_⟩
  · obtain ⟨a, ns, rfl, _⟩ := h
    rfl
  · subst hK
    exact box_ok rfl h
/-! _law_load -/
abbrev s__law_load : Stmt := topS 29
theorem sc__law_load : FnScope ["box", "cells", "cell", "size", "first", "second"] ["box"] (C8.fnScope s__law_load) := ⟨rfl, rfl, rfl, by decide +kernel, rfl, by decide +kernel, by decide +kernel⟩
theorem cal__law_load (L : Lw K mg c) {a cd : Addr} {fd : FuncData} (F : DefC K mg "_law_load" s__law_load a fd cd) (b : Binds K fd ["box"] []) : C8.Cal P w K mg base 1 "_law_load" (spD c 1 [0] m_load) [] := by
  have hK := L.hK
  refine calRaw F b sc__law_load rfl fun A outer s H E hr => ?_
  refine ⟨_, pss_cons (ps_set (i := 1) sc__law_load.nd rfl (.inl rfl) (pe_ix ix_list (pv 0) pe_int (fun _ _ => rfl)))
    (pss_cons (ps_if (pt_cmpR op_gt (pe_callB call_len_seq (by rfl) L.z_len bt_len (pa_cons (pv 1) pa_nil)) pe_int (nomark _))
      (pss_cons (ps_set (i := 2) sc__law_load.nd rfl (.inl rfl) (pe_callTy call_int1 (by rfl) L.z_int bt_int (pa_cons (pe_bm PySem.F.plainAttrs_list PySem.F.slot_list_pop PySem.F.type_list_pop mt_popAt (pv 1) (pa_cons pe_int pa_nil)) pa_nil)))
      (pss_cons (ps_set (i := 3) sc__law_load.nd rfl (.inl rfl) (pe_ifExp (pt_cmpR op_ge (pv 2) pe_int (nomark _)) (pe_op op_mul pe_int (pv 2)) (pe_op op_sub (pe_op op_mul (pe_un un_neg pe_int) (pv 2)) pe_int)))
      (pss_cons (ps_if (pt_cmpR op_ge (pv 3) pe_int (nomark _)) (pss_one (ps_ret (pv 3))) pss_nil)
      (pss_one (ps_asg (pe_op op_mod (pe_callTy call_int1 (by rfl) L.z_int bt_int (pa_cons (pe_op op_add (pe_op op_add (pe_op op_mul (pe_ix ix_list (pv 0) pe_int (fun _ _ => rfl)) pe_int) (pe_op op_mul (pv 3) pe_int)) pe_int) pa_nil)) pe_int) (pg_sub (pv 0) pe_int set_list))))))
      pss_nil)
    (pss_cons (ps_set (i := 4) sc__law_load.nd rfl (.inl rfl) (pe_op op_mod (pe_callTy call_int1 (by rfl) L.z_int bt_int (pa_cons (pe_op op_add (pe_op op_mul (pe_ix ix_list (pv 0) pe_int (fun _ _ => rfl)) pe_int) pe_int) pa_nil)) pe_int))
    (pss_cons (ps_set (i := 5) sc__law_load.nd rfl (.inl rfl) (pe_op op_mod (pe_callTy call_int1 (by rfl) L.z_int bt_int (pa_cons (pe_op op_add (pe_op op_mul (pv 4) pe_int) pe_int) pa_nil)) pe_int))
    (pss_cons (ps_asg (pe_op op_mod (pe_callTy call_int1 (by rfl) L.z_int bt_int (pa_cons (pe_op op_add (pe_op op_mul (pv 5) pe_int) pe_int) pa_nil)) pe_int) (pg_sub (pv 0) pe_int set_list))
    (pss_one (ps_ret (pe_op op_add (pe_op op_add (pe_op op_mul (pv 4) pe_int) (pe_op op_mul (pv 5) pe_int)) (pe_ix ix_list (pv 0) pe_int (fun _ _ => rfl))))))))), fun vs Q h => ?_⟩
  exact load_ok hK rfl h

/-! _law_draw -/
abbrev s__law_draw : Stmt := topS 30
theorem sc__law_draw : FnScope ["box", "many", "digit"] ["box", "many"] (C8.fnScope s__law_draw) := ⟨rfl, rfl, rfl, by decide +kernel, rfl, by decide +kernel, by decide +kernel⟩
def b__law_draw : FS :=
  sSeq (sIf (tB1 (fOp2 semLt (oV (fOp2 semIx (oP 0) (oV (fCon (.int 1))))) (oP 1))) (sAsg (gIxB 0 0) (fCall 1 [0] m_load (aCons (oP 0) (aNil)))) (sNil)) (
  sSeq (sAsg (gNm 2) (fOp2 semMod (oV (fN semInt1 (aCons (oV (fOp2 semIx (oP 0) (oV (fCon (.int 1))))) (aNil)))) (oP 1))) (
  sSeq (sAsg (gIxB 0 0) (fOp2 semFdiv (oV (fOp2 semIx (oP 0) (oV (fCon (.int 1))))) (oP 1))) (
  sRet (fTake 2))))
def m__law_draw : SemF := runD 3 [0] b__law_draw
theorem cal__law_draw (L : Lw K mg c) {a cd : Addr} {fd : FuncData} (F : DefC K mg "_law_draw" s__law_draw a fd cd) (b : Binds K fd ["box", "many"] []) (c__law_load : C8.Cal P w K mg base 1 "_law_load" (spD c 1 [0] m_load) []) : C8.Cal P w K mg base 2 "_law_draw" (spD c 2 [0] m__law_draw) [] := by
  have hK := L.hK
  refine calDc F b sc__law_draw rfl (by decide) fun A outer s H E hr => ?_
  delta b__law_draw
  exact ds_cons (ds_if (dt_cmp (o_lt (hu hr) hK) (do_val (de_ix hK (do_pk (i := 0)) (do_val (de_int)))) (do_pk (i := 1))) (ds_one (ds_asg (de_call c__law_load hr (by omega) (by rfl) (da_cons (do_pk (i := 0)) (da_nil))) (dg_ixB (i := 0) (k := 0)))) (ds_nil)) (
    ds_cons (ds_set (i := 2) sc__law_draw.nd (de_op (o_mod) (do_val (de_callTy (c_int) (by rfl) L.z_int bt_int (da_cons (do_val (de_ix hK (do_pk (i := 0)) (do_val (de_int)))) (da_nil)))) (do_pk (i := 1)))) (
    ds_cons (ds_asg (de_op (o_fdiv) (do_val (de_ix hK (do_pk (i := 0)) (do_val (de_int)))) (do_pk (i := 1))) (dg_ixB (i := 0) (k := 0))) (
    ds_one (ds_ret (de_take (i := 2))))))
/-! _law_same -/
abbrev s__law_same : Stmt := topS 31
theorem sc__law_same : FnScope ["a", "b", "k"] ["a", "b"] (C8.fnScope s__law_same) := ⟨rfl, rfl, rfl, by decide +kernel, rfl, by decide +kernel, by decide +kernel⟩
def b__law_same (me : SemF) : FS :=
  sSeq (sIf (fOrT (fAndT (tB1 (fO1 (semIsT .tuple) (oP 0))) (tB1 (fO1 (semIsT .tuple) (oP 1)))) (fAndT (tB1 (fO1 (semIsT .list) (oP 0))) (tB1 (fO1 (semIsT .list) (oP 1))))) (sRet (fAndV (fOp2 semEq (oV (fN semLen (aCons (oP 0) (aNil)))) (oV (fN semLen (aCons (oP 1) (aNil))))) (fN semAll (aCons (oV (fLc 3 [2] (fiA (onD rng1) (aCons (oV (fN semLen (aCons (oP 0) (aNil)))) (aNil))) (gNm 2) (ftYes) (fCall 2 [] me (aCons (oV (fOp2 semIx (oP 0) (oP 2))) (aCons (oV (fOp2 semIx (oP 1) (oP 2))) (aNil)))))) (aNil))))) (sNil)) (
  sSeq (sIf (fOrT (tB1 (fO1 (semIsT .bool) (oP 0))) (tB1 (fO1 (semIsT .bool) (oP 1)))) (sRet (fAndV (fO1 (semIsT .bool) (oP 0)) (fAndV (fO1 (semIsT .bool) (oP 1)) (fOp2 semEq (oP 0) (oP 1))))) (sNil)) (
  sSeq (sIf (fOrT (fAndT (tB1 (fO1 (semIsT .int) (oP 0))) (tB1 (fO1 (semIsT .int) (oP 1)))) (fAndT (tB1 (fO1 (semIsT .str) (oP 0))) (tB1 (fO1 (semIsT .str) (oP 1))))) (sRet (fOp2 semEq (oP 0) (oP 1))) (sNil)) (
  sRet (fAndV (fOp2 semIs (oP 0) (oV (fCon .none))) (fOp2 semIs (oP 1) (oV (fCon .none)))))))
def m__law_same : Nat → SemF
  | 0 => fun _ => stk
  | n + 1 => runD 3 [] (b__law_same (m__law_same n))
theorem calN__law_same (L : Lw K mg c) {a cd : Addr} {fd : FuncData} (F : DefC K mg "_law_same" s__law_same a fd cd) (b : Binds K fd ["a", "b"] [])  : ∀ n : Nat, C8.Cal P w K mg base (n * 1 + 1) "_law_same" (spD c 2 [] (m__law_same n)) []
  | 0 => calVoid F b sc__law_same rfl
  | n + 1 => by
    have hK := L.hK
    have c__law_same := calN__law_same L F b  n
    have e : (n + 1) * 1 + 1 = (n * 1 + 1) + 1 := by omega
    rw [e]
    refine calDc F b sc__law_same rfl (by decide) fun A outer s H E hr => ?_
    delta b__law_same
    exact ds_cons (ds_if (dt_w (dw_or (dt_w (dw_and (dt_val (de_isT .tuple hK (by rfl) L.z_isinstance (by rfl) L.z_tuple bt_tuple (do_pk (i := 0)))) (dw_and1 (dt_val (de_isT .tuple hK (by rfl) L.z_isinstance (by rfl) L.z_tuple bt_tuple (do_pk (i := 1))))))) (dw_or1 (dt_w (dw_and (dt_val (de_isT .list hK (by rfl) L.z_isinstance (by rfl) L.z_list bt_list (do_pk (i := 0)))) (dw_and1 (dt_val (de_isT .list hK (by rfl) L.z_isinstance (by rfl) L.z_list bt_list (do_pk (i := 1)))))))))) (ds_one (ds_ret (de_and (de_cmp (o_eq (hu hr) hK) (do_val (de_callB (c_len hK) (by rfl) L.z_len bt_len (da_cons (do_pk (i := 0)) (da_nil)))) (do_val (de_callB (c_len hK) (by rfl) L.z_len bt_len (da_cons (do_pk (i := 1)) (da_nil))))) (de_one (de_callB (c_all rfl) (by rfl) L.z_all bt_all (da_cons (do_val (de_lc (n := 3) (own := [("k", 2)]) rfl sc__law_same.nd (di_rng1 (by rfl) L.z_range (da_cons (do_val (de_callB (c_len hK) (by rfl) L.z_len bt_len (da_cons (do_pk (i := 0)) (da_nil)))) (da_nil))) (blkOk_by (N := ["a", "b", "k"]) (sc := C8.fnScope s__law_same) (by decide +kernel)) (fun _ _ _ _ _ => dg_name (i := 2) sc__law_same.nd) (fun _ _ _ _ _ => dts_nil) (fun _ _ _ _ _ => de_call c__law_same hr (by omega) (by rfl) (da_cons (do_val (de_ix hK (do_pk (i := 0)) (do_pk (i := 2)))) (da_cons (do_val (de_ix hK (do_pk (i := 1)) (do_pk (i := 2)))) (da_nil)))))) (da_nil))))))) (ds_nil)) (
    ds_cons (ds_if (dt_w (dw_or (dt_val (de_isT .bool hK (by rfl) L.z_isinstance (by rfl) L.z_bool bt_bool (do_pk (i := 0)))) (dw_or1 (dt_val (de_isT .bool hK (by rfl) L.z_isinstance (by rfl) L.z_bool bt_bool (do_pk (i := 1))))))) (ds_one (ds_ret (de_and (de_isT .bool hK (by rfl) L.z_isinstance (by rfl) L.z_bool bt_bool (do_pk (i := 0))) (de_and (de_isT .bool hK (by rfl) L.z_isinstance (by rfl) L.z_bool bt_bool (do_pk (i := 1))) (de_one (de_cmp (o_eq (hu hr) hK) (do_pk (i := 0)) (do_pk (i := 1)))))))) (ds_nil)) (
    ds_cons (ds_if (dt_w (dw_or (dt_w (dw_and (dt_val (de_isT .int hK (by rfl) L.z_isinstance (by rfl) L.z_int bt_int (do_pk (i := 0)))) (dw_and1 (dt_val (de_isT .int hK (by rfl) L.z_isinstance (by rfl) L.z_int bt_int (do_pk (i := 1))))))) (dw_or1 (dt_w (dw_and (dt_val (de_isT .str hK (by rfl) L.z_isinstance (by rfl) L.z_str bt_str (do_pk (i := 0)))) (dw_and1 (dt_val (de_isT .str hK (by rfl) L.z_isinstance (by rfl) L.z_str bt_str (do_pk (i := 1)))))))))) (ds_one (ds_ret (de_cmp (o_eq (hu hr) hK) (do_pk (i := 0)) (do_pk (i := 1))))) (ds_nil)) (
    ds_one (ds_ret (de_and (de_cmp (o_is) (do_pk (i := 0)) (do_val (de_non))) (de_one (de_cmp (o_is) (do_pk (i := 1)) (do_val (de_non)))))))))
theorem cal__law_same (L : Lw K mg c) {a cd : Addr} {fd : FuncData} (F : DefC K mg "_law_same" s__law_same a fd cd) (b : Binds K fd ["a", "b"] [])  : C8.Cal P w K mg base 9 "_law_same" (spD c 2 [] (m__law_same 8)) [] := calN__law_same L F b  8
/-! _law_bent -/
abbrev s__law_bent : Stmt := topS 32
theorem sc__law_bent : FnScope ["box", "value", "at", "pick"] ["box", "value"] (C8.fnScope s__law_bent) := ⟨rfl, rfl, rfl, by decide +kernel, rfl, by decide +kernel, by decide +kernel⟩
def b__law_bent (me : SemF) : FS :=
  sSeq (sIf (fAndT (tB1 (fO1 (semIsT .tuple) (oP 1))) (fAndT (tB1 (fOp2 semGtI (oV (fN semLen (aCons (oP 1) (aNil)))) (oV (fCon (.int 0))))) (tB1 (fOp2 semGtI (oV (fCall 2 [0] m__law_draw (aCons (oP 0) (aCons (oV (fCon (.int 5))) (aNil))))) (oV (fCon (.int 0))))))) (sSeq (sAsg (gNm 2) (fCall 2 [0] m__law_draw (aCons (oP 0) (aCons (oV (fN semLen (aCons (oP 1) (aNil)))) (aNil))))) (
  sRet (fOp2 semAdd (oV (fOp2 semAdd (oV (fSl (oP 1) (fPN) (fPS (fVar 2)))) (oV (fN semTup (aCons (oV (fSh (fCall 2 [0] me (aCons (oP 0) (aCons (oV (fOp2 semIx (oP 1) (oP 2))) (aNil)))))) (aNil)))))) (oV (fSl (oP 1) (fPS (fOp2 semAdd (oP 2) (oV (fCon (.int 1))))) (fPN)))))) (sNil)) (
  sSeq (sAsg (gNm 3) (fCall 2 [0] m__law_draw (aCons (oP 0) (aCons (oV (fCon (.int 8))) (aNil))))) (
  sSeq (sIf (tB1 (fO1 (semIsT .tuple) (oP 1))) (sRet (fOp2 semIx (oV (fN semLst (aCons (oV (fSh (fOp2 semAdd (oP 1) (oV (fSl (oP 1) (fPN) (fPS (fCon (.int 1)))))))) (aCons (oV (fSh (fSl (oP 1) (fPS (fCon (.int 1))) (fPN)))) (aCons (oV (fSh (fRev (oP 1)))) (aCons (oV (fSh (fOp2 semAdd (oP 1) (oV (fN semTup (aCons (oV (fCon (.int 0))) (aNil))))))) (aCons (oV (fSh (fOp2 semAdd (oV (fSl (oP 1) (fPN) (fPS (fCon (.int 1))))) (oP 1)))) (aCons (oV (fSh (fSl (oP 1) (fPN) (fPS (fUn semNeg (fCon (.int 1))))))) (aCons (oV (fCon .none)) (aCons (oV (fSh (fSl (oP 1) (fPN) (fPS (fCon (.int 1)))))) (aNil))))))))))) (oP 3))) (sNil)) (
  sSeq (sIf (fAndT (tB1 (fO1 (semIsT .int) (oP 1))) (fNotT (tB1 (fO1 (semIsT .bool) (oP 1))))) (sRet (fOp2 semIx (oV (fN semLst (aCons (oV (fSh (fOp2 semAdd (oP 1) (oV (fCon (.int 1)))))) (aCons (oV (fSh (fOp2 semSub (oP 1) (oV (fCon (.int 1)))))) (aCons (oV (fUn semNeg (fVar 1))) (aCons (oV (fOp2 semEq (oP 1) (oV (fCon (.int 1))))) (aCons (oV (fCon .none)) (aCons (oV (fSh (fN semStr1 (aCons (oP 1) (aNil))))) (aCons (oV (fN semTup (aCons (oV (fVar 1)) (aNil)))) (aCons (oV (fSh (fOp2 semAdd (oP 1) (oV (fCon (.int 1001)))))) (aNil))))))))))) (oP 3))) (sNil)) (
  sSeq (sIf (tB1 (fO1 (semIsT .str) (oP 1))) (sRet (fOp2 semIx (oV (fN semLst (aCons (oV (fSh (fOp2 semAdd (oP 1) (oV (fCon (.str "a")))))) (aCons (oV (fSh (fSl (oP 1) (fPS (fCon (.int 1))) (fPN)))) (aCons (oV (fCon (.str "any"))) (aCons (oV (fSh (fMv "str" semUpper (oP 1) aNil))) (aCons (oV (fCon (.int 0))) (aCons (oV (fCon (.str ""))) (aCons (oV (fSh (fOp2 semAdd (oP 1) (oV (fCon (.str "z0z0z0z0")))))) (aCons (oV (fN semTup (aCons (oV (fVar 1)) (aNil)))) (aNil))))))))))) (oP 3))) (sNil)) (
  sRet (fOp2 semIx (oV (fN semLst (aCons (oV (fCon (.int 0))) (aCons (oV (fCon (.int 1))) (aCons (oV (fCon .none)) (aCons (oV (fCon (.bool true))) (aCons (oV (fCon (.bool false))) (aCons (oV (fCon (.str "a"))) (aCons (oV (fN semTup (aNil))) (aCons (oV (fUn semNeg (fCon (.int 1)))) (aNil))))))))))) (oP 3)))))))
def m__law_bent : Nat → SemF
  | 0 => fun _ => stk
  | n + 1 => runD 4 [0] (b__law_bent (m__law_bent n))
theorem calN__law_bent (L : Lw K mg c) {a cd : Addr} {fd : FuncData} (F : DefC K mg "_law_bent" s__law_bent a fd cd) (b : Binds K fd ["box", "value"] []) (c__law_draw : C8.Cal P w K mg base 2 "_law_draw" (spD c 2 [0] m__law_draw) []) : ∀ n : Nat, C8.Cal P w K mg base (n * 1 + 3) "_law_bent" (spD c 2 [0] (m__law_bent n)) []
  | 0 => calVoid F b sc__law_bent rfl
  | n + 1 => by
    have hK := L.hK
    have c__law_bent := calN__law_bent L F b c__law_draw n
    have e : (n + 1) * 1 + 3 = (n * 1 + 3) + 1 := by omega
    rw [e]
    refine calDc F b sc__law_bent rfl (by decide) fun A outer s H E hr => ?_
    delta b__law_bent
    exact ds_cons (ds_if (dt_w (dw_and (dt_val (de_isT .tuple hK (by rfl) L.z_isinstance (by rfl) L.z_tuple bt_tuple (do_pk (i := 1)))) (dw_and (dt_cmp (o_gt) (do_val (de_callB (c_len hK) (by rfl) L.z_len bt_len (da_cons (do_pk (i := 1)) (da_nil)))) (do_val (de_int))) (dw_and1 (dt_cmp (o_gt) (do_val (de_call c__law_draw hr (by omega) (by rfl) (da_cons (do_pk (i := 0)) (da_cons (do_val (de_int)) (da_nil))))) (do_val (de_int))))))) (ds_cons (ds_set (i := 2) sc__law_bent.nd (de_call c__law_draw hr (by omega) (by rfl) (da_cons (do_pk (i := 0)) (da_cons (do_val (de_callB (c_len hK) (by rfl) L.z_len bt_len (da_cons (do_pk (i := 1)) (da_nil)))) (da_nil))))) (
    ds_one (ds_ret (de_op (o_add hK) (do_val (de_op (o_add hK) (do_val (de_slice hK (do_pk (i := 1)) (dp_none) (dp_some (de_var (i := 2))))) (do_val (de_tup (da_cons (do_val (de_sh (de_call c__law_bent hr (by omega) (by rfl) (da_cons (do_pk (i := 0)) (da_cons (do_val (de_ix hK (do_pk (i := 1)) (do_pk (i := 2)))) (da_nil)))))) (da_nil)))))) (do_val (de_slice hK (do_pk (i := 1)) (dp_some (de_op (o_add hK) (do_pk (i := 2)) (do_val (de_int)))) (dp_none))))))) (ds_nil)) (
    ds_cons (ds_set (i := 3) sc__law_bent.nd (de_call c__law_draw hr (by omega) (by rfl) (da_cons (do_pk (i := 0)) (da_cons (do_val (de_int)) (da_nil))))) (
    ds_cons (ds_if (dt_val (de_isT .tuple hK (by rfl) L.z_isinstance (by rfl) L.z_tuple bt_tuple (do_pk (i := 1)))) (ds_one (ds_ret (de_ix hK (do_val (de_lst (da_cons (do_val (de_sh (de_op (o_add hK) (do_pk (i := 1)) (do_val (de_slice hK (do_pk (i := 1)) (dp_none) (dp_some (de_int))))))) (da_cons (do_val (de_sh (de_slice hK (do_pk (i := 1)) (dp_some (de_int)) (dp_none)))) (da_cons (do_val (de_sh (de_rev hK (do_pk (i := 1))))) (da_cons (do_val (de_sh (de_op (o_add hK) (do_pk (i := 1)) (do_val (de_tup (da_cons (do_val (de_int)) (da_nil))))))) (da_cons (do_val (de_sh (de_op (o_add hK) (do_val (de_slice hK (do_pk (i := 1)) (dp_none) (dp_some (de_int)))) (do_pk (i := 1))))) (da_cons (do_val (de_sh (de_slice hK (do_pk (i := 1)) (dp_none) (dp_some (de_neg (de_int)))))) (da_cons (do_val (de_non)) (da_cons (do_val (de_sh (de_slice hK (do_pk (i := 1)) (dp_none) (dp_some (de_int))))) (da_nil))))))))))) (do_pk (i := 3))))) (ds_nil)) (
    ds_cons (ds_if (dt_w (dw_and (dt_val (de_isT .int hK (by rfl) L.z_isinstance (by rfl) L.z_int bt_int (do_pk (i := 1)))) (dw_and1 (dt_not (dt_val (de_isT .bool hK (by rfl) L.z_isinstance (by rfl) L.z_bool bt_bool (do_pk (i := 1)))))))) (ds_one (ds_ret (de_ix hK (do_val (de_lst (da_cons (do_val (de_sh (de_op (o_add hK) (do_pk (i := 1)) (do_val (de_int))))) (da_cons (do_val (de_sh (de_op (o_sub) (do_pk (i := 1)) (do_val (de_int))))) (da_cons (do_val (de_neg (de_var (i := 1)))) (da_cons (do_val (de_cmp (o_eq (hu hr) hK) (do_pk (i := 1)) (do_val (de_int)))) (da_cons (do_val (de_non)) (da_cons (do_val (de_sh (de_callTy (c_str) (by rfl) L.z_str bt_str (da_cons (do_pk (i := 1)) (da_nil))))) (da_cons (do_val (de_tup (da_cons (do_val (de_var (i := 1))) (da_nil)))) (da_cons (do_val (de_sh (de_op (o_add hK) (do_pk (i := 1)) (do_val (de_int))))) (da_nil))))))))))) (do_pk (i := 3))))) (ds_nil)) (
    ds_cons (ds_if (dt_val (de_isT .str hK (by rfl) L.z_isinstance (by rfl) L.z_str bt_str (do_pk (i := 1)))) (ds_one (ds_ret (de_ix hK (do_val (de_lst (da_cons (do_val (de_sh (de_op (o_add hK) (do_pk (i := 1)) (do_val (de_str))))) (da_cons (do_val (de_sh (de_slice hK (do_pk (i := 1)) (dp_some (de_int)) (dp_none)))) (da_cons (do_val (de_str)) (da_cons (do_val (de_sh (de_mv0 hK PySem.F.plainAttrs_str PySem.F.slot_str_upper PySem.F.type_str_upper (m_upper) (do_pk (i := 1))))) (da_cons (do_val (de_int)) (da_cons (do_val (de_str)) (da_cons (do_val (de_sh (de_op (o_add hK) (do_pk (i := 1)) (do_val (de_str))))) (da_cons (do_val (de_tup (da_cons (do_val (de_var (i := 1))) (da_nil)))) (da_nil))))))))))) (do_pk (i := 3))))) (ds_nil)) (
    ds_one (ds_ret (de_ix hK (do_val (de_lst (da_cons (do_val (de_int)) (da_cons (do_val (de_int)) (da_cons (do_val (de_non)) (da_cons (do_val (de_bl)) (da_cons (do_val (de_bl)) (da_cons (do_val (de_str)) (da_cons (do_val (de_tup (da_nil))) (da_cons (do_val (de_neg (de_int))) (da_nil))))))))))) (do_pk (i := 3)))))))))
theorem cal__law_bent (L : Lw K mg c) {a cd : Addr} {fd : FuncData} (F : DefC K mg "_law_bent" s__law_bent a fd cd) (b : Binds K fd ["box", "value"] []) (c__law_draw : C8.Cal P w K mg base 2 "_law_draw" (spD c 2 [0] m__law_draw) []) : C8.Cal P w K mg base 11 "_law_bent" (spD c 2 [0] (m__law_bent 8)) [] := calN__law_bent L F b c__law_draw 8
/-! _law_common -/
abbrev s__law_common : Stmt := topS 33
theorem sc__law_common : FnScope ["a", "b"] ["a", "b"] (C8.fnScope s__law_common) := ⟨rfl, rfl, rfl, by decide +kernel, rfl, by decide +kernel, by decide +kernel⟩
def b__law_common : FS :=
  sSeq (sPar 0 1 (aCons (oV (fN semAbs (aCons (oP 0) (aNil)))) (aCons (oV (fN semAbs (aCons (oP 1) (aNil)))) (aNil)))) (
  sSeq (whileD (tB1 (fOp2 semGtI (oP 1) (oV (fCon (.int 0))))) (sPar 0 1 (aCons (oV (fVar 1)) (aCons (oV (fOp2 semMod (oV (fN semInt1 (aCons (oP 0) (aNil)))) (oP 1))) (aNil)))) 1000000) (
  sRet (fTake 0)))
def m__law_common : SemF := runD 2 [] b__law_common
theorem cal__law_common (L : Lw K mg c) {a cd : Addr} {fd : FuncData} (F : DefC K mg "_law_common" s__law_common a fd cd) (b : Binds K fd ["a", "b"] [])  : C8.Cal P w K mg base 1 "_law_common" (spD c 2 [] m__law_common) [] := by
  have hK := L.hK
  refine calDc F b sc__law_common rfl (by decide) fun A outer s H E hr => ?_
  delta b__law_common
  exact ds_cons (ds_par2 (i := 0) (j := 1) sc__law_common.nd (da_cons (do_val (de_callB (c_abs) (by rfl) L.z_abs bt_abs (da_cons (do_pk (i := 0)) (da_nil)))) (da_cons (do_val (de_callB (c_abs) (by rfl) L.z_abs bt_abs (da_cons (do_pk (i := 1)) (da_nil)))) (da_nil)))) (
    ds_cons (ds_while 1000000 PassesOwn.never (dt_cmp (o_gt) (do_pk (i := 1)) (do_val (de_int))) (ds_one (ds_par2 (i := 0) (j := 1) sc__law_common.nd (da_cons (do_val (de_var (i := 1))) (da_cons (do_val (de_op (o_mod) (do_val (de_callTy (c_int) (by rfl) L.z_int bt_int (da_cons (do_pk (i := 0)) (da_nil)))) (do_pk (i := 1)))) (da_nil)))))) (
    ds_one (ds_ret (de_take (i := 0)))))
/-! _law_lowest -/
abbrev s__law_lowest : Stmt := topS 34
theorem sc__law_lowest : FnScope ["p", "q", "common"] ["p", "q"] (C8.fnScope s__law_lowest) := ⟨rfl, rfl, rfl, by decide +kernel, rfl, by decide +kernel, by decide +kernel⟩
def b__law_lowest : FS :=
  sSeq (sIf (tB1 (fOp2 semLt (oP 1) (oV (fCon (.int 0))))) (sPar 0 1 (aCons (oV (fUn semNeg (fVar 0))) (aCons (oV (fUn semNeg (fVar 1))) (aNil)))) (sNil)) (
  sSeq (sAsg (gNm 2) (fCall 2 [] m__law_common (aCons (oV (fVar 0)) (aCons (oV (fVar 1)) (aNil))))) (
  sRet (fN semTup (aCons (oV (fSh (fOp2 semFdiv (oP 0) (oP 2)))) (aCons (oV (fSh (fOp2 semFdiv (oP 1) (oP 2)))) (aNil))))))
def m__law_lowest : SemF := runD 3 [] b__law_lowest
theorem cal__law_lowest (L : Lw K mg c) {a cd : Addr} {fd : FuncData} (F : DefC K mg "_law_lowest" s__law_lowest a fd cd) (b : Binds K fd ["p", "q"] []) (c__law_common : C8.Cal P w K mg base 1 "_law_common" (spD c 2 [] m__law_common) []) : C8.Cal P w K mg base 2 "_law_lowest" (spD c 2 [] m__law_lowest) [] := by
  have hK := L.hK
  refine calDc F b sc__law_lowest rfl (by decide) fun A outer s H E hr => ?_
  delta b__law_lowest
  exact ds_cons (ds_if (dt_cmp (o_lt (hu hr) hK) (do_pk (i := 1)) (do_val (de_int))) (ds_one (ds_par2 (i := 0) (j := 1) sc__law_lowest.nd (da_cons (do_val (de_neg (de_var (i := 0)))) (da_cons (do_val (de_neg (de_var (i := 1)))) (da_nil))))) (ds_nil)) (
    ds_cons (ds_set (i := 2) sc__law_lowest.nd (de_call c__law_common hr (by omega) (by rfl) (da_cons (do_val (de_var (i := 0))) (da_cons (do_val (de_var (i := 1))) (da_nil))))) (
    ds_one (ds_ret (de_tup (da_cons (do_val (de_sh (de_op (o_fdiv) (do_pk (i := 0)) (do_pk (i := 2))))) (da_cons (do_val (de_sh (de_op (o_fdiv) (do_pk (i := 1)) (do_pk (i := 2))))) (da_nil)))))))
/-! _law_ratio_due -/
abbrev s__law_ratio_due : Stmt := topS 35
theorem sc__law_ratio_due : FnScope ["value", "part"] ["value"] (C8.fnScope s__law_ratio_due) := ⟨rfl, rfl, rfl, by decide +kernel, rfl, by decide +kernel, by decide +kernel⟩
def b__law_ratio_due : FS :=
  sSeq (sIf (fOrT (fNotT (tB1 (fO1 (semIsT .tuple) (oP 0)))) (tB1 (fOp2 semNe (oV (fN semLen (aCons (oP 0) (aNil)))) (oV (fCon (.int 2)))))) (sRet (fCon (.bool false))) (sNil)) (
  sSeq (sIf (fNotT (tB1 (fN semAll (aCons (oV (fLc 2 [1] (fiSeq (fVar 0)) (gNm 1) (ftYes) (fAndV (fO1 (semIsT .int) (oP 1)) (fNotV (fO1 (semIsT .bool) (oP 1)))))) (aNil))))) (sRet (fCon (.bool false))) (sNil)) (
  sRet (fAndV (fOp2 semGtI (oV (fOp2 semIx (oP 0) (oV (fCon (.int 1))))) (oV (fCon (.int 0)))) (fOp2 semEq (oV (fCall 2 [] m__law_common (aCons (oV (fOp2 semIx (oP 0) (oV (fCon (.int 0))))) (aCons (oV (fOp2 semIx (oP 0) (oV (fCon (.int 1))))) (aNil))))) (oV (fCon (.int 1)))))))
def m__law_ratio_due : SemF := runD 2 [] b__law_ratio_due
theorem cal__law_ratio_due (L : Lw K mg c) {a cd : Addr} {fd : FuncData} (F : DefC K mg "_law_ratio_due" s__law_ratio_due a fd cd) (b : Binds K fd ["value"] []) (c__law_common : C8.Cal P w K mg base 1 "_law_common" (spD c 2 [] m__law_common) []) : C8.Cal P w K mg base 2 "_law_ratio_due" (spD c 1 [] m__law_ratio_due) [] := by
  have hK := L.hK
  refine calDc F b sc__law_ratio_due rfl (by decide) fun A outer s H E hr => ?_
  delta b__law_ratio_due
  exact ds_cons (ds_if (dt_w (dw_or (dt_not (dt_val (de_isT .tuple hK (by rfl) L.z_isinstance (by rfl) L.z_tuple bt_tuple (do_pk (i := 0))))) (dw_or1 (dt_cmp (o_ne (hu hr) hK) (do_val (de_callB (c_len hK) (by rfl) L.z_len bt_len (da_cons (do_pk (i := 0)) (da_nil)))) (do_val (de_int)))))) (ds_one (ds_ret (de_bl))) (ds_nil)) (
    ds_cons (ds_if (dt_not (dt_val (de_callB (c_all rfl) (by rfl) L.z_all bt_all (da_cons (do_val (de_lc (n := 2) (own := [("part", 1)]) rfl sc__law_ratio_due.nd (di_seq hK (de_var (i := 0))) (blkOk_by (N := ["value", "part"]) (sc := C8.fnScope s__law_ratio_due) (by decide +kernel)) (fun _ _ _ _ _ => dg_name (i := 1) sc__law_ratio_due.nd) (fun _ _ _ _ _ => dts_nil) (fun _ _ _ _ _ => de_and (de_isT .int hK (by rfl) L.z_isinstance (by rfl) L.z_int bt_int (do_pk (i := 1))) (de_one (de_not (de_isT .bool hK (by rfl) L.z_isinstance (by rfl) L.z_bool bt_bool (do_pk (i := 1)))))))) (da_nil))))) (ds_one (ds_ret (de_bl))) (ds_nil)) (
    ds_one (ds_ret (de_and (de_cmp (o_gt) (do_val (de_ix hK (do_pk (i := 0)) (do_val (de_int)))) (do_val (de_int))) (de_one (de_cmp (o_eq (hu hr) hK) (do_val (de_call c__law_common hr (by omega) (by rfl) (da_cons (do_val (de_ix hK (do_pk (i := 0)) (do_val (de_int)))) (da_cons (do_val (de_ix hK (do_pk (i := 0)) (do_val (de_int)))) (da_nil))))) (do_val (de_int))))))))
/-! _law_integer -/
abbrev s__law_integer : Stmt := topS 36
theorem sc__law_integer : FnScope ["box", "top"] ["box"] (C8.fnScope s__law_integer) := ⟨rfl, rfl, rfl, by decide +kernel, rfl, by decide +kernel, by decide +kernel⟩
def b__law_integer : FS :=
  sSeq (sAsg (gNm 1) (fOp2 semIx (oV (fN semLst (aCons (oV (fCon (.int 3))) (aCons (oV (fCon (.int 13))) (aCons (oV (fSh (fOp2 semPow (oV (fCon (.int 10))) (oV (fCon (.int 4)))))) (aCons (oV (fSh (fOp2 semPow (oV (fCon (.int 10))) (oV (fCon (.int 10)))))) (aCons (oV (fSh (fOp2 semPow (oV (fCon (.int 10))) (oV (fCon (.int 30)))))) (aNil)))))))) (oV (fCall 2 [0] m__law_draw (aCons (oP 0) (aCons (oV (fCon (.int 5))) (aNil))))))) (
  sRet (fOp2 semSub (oV (fCall 2 [0] m__law_draw (aCons (oP 0) (aCons (oV (fVar 1)) (aNil))))) (oV (fOp2 semIx (oV (fN semLst (aCons (oV (fCon (.int 0))) (aCons (oV (fCon (.int 0))) (aCons (oV (fSh (fOp2 semFdiv (oP 1) (oV (fCon (.int 2)))))) (aNil)))))) (oV (fCall 2 [0] m__law_draw (aCons (oP 0) (aCons (oV (fCon (.int 3))) (aNil)))))))))
def m__law_integer : SemF := runD 2 [0] b__law_integer
theorem cal__law_integer (L : Lw K mg c) {a cd : Addr} {fd : FuncData} (F : DefC K mg "_law_integer" s__law_integer a fd cd) (b : Binds K fd ["box"] []) (c__law_draw : C8.Cal P w K mg base 2 "_law_draw" (spD c 2 [0] m__law_draw) []) : C8.Cal P w K mg base 3 "_law_integer" (spD c 1 [0] m__law_integer) [] := by
  have hK := L.hK
  refine calDc F b sc__law_integer rfl (by decide) fun A outer s H E hr => ?_
  delta b__law_integer
  exact ds_cons (ds_set (i := 1) sc__law_integer.nd (de_ix hK (do_val (de_lst (da_cons (do_val (de_int)) (da_cons (do_val (de_int)) (da_cons (do_val (de_sh (de_op (o_pow) (do_val (de_int)) (do_val (de_int))))) (da_cons (do_val (de_sh (de_op (o_pow) (do_val (de_int)) (do_val (de_int))))) (da_cons (do_val (de_sh (de_op (o_pow) (do_val (de_int)) (do_val (de_int))))) (da_nil)))))))) (do_val (de_call c__law_draw hr (by omega) (by rfl) (da_cons (do_pk (i := 0)) (da_cons (do_val (de_int)) (da_nil))))))) (
    ds_one (ds_ret (de_op (o_sub) (do_val (de_call c__law_draw hr (by omega) (by rfl) (da_cons (do_pk (i := 0)) (da_cons (do_val (de_var (i := 1))) (da_nil))))) (do_val (de_ix hK (do_val (de_lst (da_cons (do_val (de_int)) (da_cons (do_val (de_int)) (da_cons (do_val (de_sh (de_op (o_fdiv) (do_pk (i := 1)) (do_val (de_int))))) (da_nil)))))) (do_val (de_call c__law_draw hr (by omega) (by rfl) (da_cons (do_pk (i := 0)) (da_cons (do_val (de_int)) (da_nil))))))))))
/-! _law_scale_due -/
abbrev s__law_scale_due : Stmt := topS 37
theorem sc__law_scale_due : FnScope ["value", "step", "k"] ["value"] (C8.fnScope s__law_scale_due) := ⟨rfl, rfl, rfl, by decide +kernel, rfl, by decide +kernel, by decide +kernel⟩
def b__law_scale_due : FS :=
  sSeq (sIf (fOrT (fNotT (tB1 (fO1 (semIsT .tuple) (oP 0)))) (fNotT (tB1 (fChain semLeI semLeI (oV (fCon (.int 1))) (oV (fN semLen (aCons (oP 0) (aNil)))) (oV (fCon (.int 12))))))) (sRet (fCon (.bool false))) (sNil)) (
  sSeq (sFor (fiSeq (fVar 0)) (gNm 1) (sSeq (sIf (fOrT (fNotT (tB1 (fO1 (semIsT .tuple) (oP 1)))) (fOrT (tB1 (fOp2 semNe (oV (fN semLen (aCons (oP 1) (aNil)))) (oV (fCon (.int 2))))) (fOrT (fNotT (tB1 (fO1 (semIsT .int) (oV (fOp2 semIx (oP 1) (oV (fCon (.int 0)))))))) (tB1 (fO1 (semIsT .bool) (oV (fOp2 semIx (oP 1) (oV (fCon (.int 0)))))))))) (sRet (fCon (.bool false))) (sNil)) (
  sIf (fOrT (fNotT (tB1 (fChain semLeI semLeI (oV (fCon (.int 0))) (oV (fOp2 semIx (oP 1) (oV (fCon (.int 0))))) (oV (fCon (.int 1000000000)))))) (fOrT (fNotT (tB1 (fCall 1 [] m__law_ratio_due (aCons (oV (fOp2 semIx (oP 1) (oV (fCon (.int 1))))) (aNil))))) (fNotT (tB1 (fChain semLeI semLeI (oV (fCon (.int 0))) (oV (fOp2 semIx (oV (fOp2 semIx (oP 1) (oV (fCon (.int 1))))) (oV (fCon (.int 0))))) (oV (fOp2 semIx (oV (fOp2 semIx (oP 1) (oV (fCon (.int 1))))) (oV (fCon (.int 1)))))))))) (sRet (fCon (.bool false))) (sNil)))) (
  sRet (fAndV (fOp2 semEq (oV (fOp2 semIx (oV (fOp2 semIx (oP 0) (oV (fCon (.int 0))))) (oV (fCon (.int 0))))) (oV (fCon (.int 0)))) (fN semAll (aCons (oV (fLc 3 [2] (fiA (onD rng1) (aCons (oV (fOp2 semSub (oV (fN semLen (aCons (oP 0) (aNil)))) (oV (fCon (.int 1))))) (aNil))) (gNm 2) (ftYes) (fOp2 semLt (oV (fOp2 semIx (oV (fOp2 semIx (oP 0) (oP 2))) (oV (fCon (.int 0))))) (oV (fOp2 semIx (oV (fOp2 semIx (oP 0) (oV (fOp2 semAdd (oP 2) (oV (fCon (.int 1))))))) (oV (fCon (.int 0)))))))) (aNil))))))
def m__law_scale_due : SemF := runD 3 [] b__law_scale_due
theorem cal__law_scale_due (L : Lw K mg c) {a cd : Addr} {fd : FuncData} (F : DefC K mg "_law_scale_due" s__law_scale_due a fd cd) (b : Binds K fd ["value"] []) (c__law_ratio_due : C8.Cal P w K mg base 2 "_law_ratio_due" (spD c 1 [] m__law_ratio_due) []) : C8.Cal P w K mg base 3 "_law_scale_due" (spD c 1 [] m__law_scale_due) [] := by
  have hK := L.hK
  refine calDc F b sc__law_scale_due rfl (by decide) fun A outer s H E hr => ?_
  delta b__law_scale_due
  exact ds_cons (ds_if (dt_w (dw_or (dt_not (dt_val (de_isT .tuple hK (by rfl) L.z_isinstance (by rfl) L.z_tuple bt_tuple (do_pk (i := 0))))) (dw_or1 (dt_not (dt_chain (o_le) (o_le) (do_val (de_int)) (do_val (de_callB (c_len hK) (by rfl) L.z_len bt_len (da_cons (do_pk (i := 0)) (da_nil)))) (do_val (de_int))))))) (ds_one (ds_ret (de_bl))) (ds_nil)) (
    ds_cons (ds_for PassesOwn.never rfl (di_seq hK (de_var (i := 0))) (dg_name (i := 1) sc__law_scale_due.nd) (ds_cons (ds_if (dt_w (dw_or (dt_not (dt_val (de_isT .tuple hK (by rfl) L.z_isinstance (by rfl) L.z_tuple bt_tuple (do_pk (i := 1))))) (dw_or (dt_cmp (o_ne (hu hr) hK) (do_val (de_callB (c_len hK) (by rfl) L.z_len bt_len (da_cons (do_pk (i := 1)) (da_nil)))) (do_val (de_int))) (dw_or (dt_not (dt_val (de_isT .int hK (by rfl) L.z_isinstance (by rfl) L.z_int bt_int (do_val (de_ix hK (do_pk (i := 1)) (do_val (de_int))))))) (dw_or1 (dt_val (de_isT .bool hK (by rfl) L.z_isinstance (by rfl) L.z_bool bt_bool (do_val (de_ix hK (do_pk (i := 1)) (do_val (de_int))))))))))) (ds_one (ds_ret (de_bl))) (ds_nil)) (
    ds_one (ds_if (dt_w (dw_or (dt_not (dt_chain (o_le) (o_le) (do_val (de_int)) (do_val (de_ix hK (do_pk (i := 1)) (do_val (de_int)))) (do_val (de_int)))) (dw_or (dt_not (dt_val (de_call c__law_ratio_due hr (by omega) (by rfl) (da_cons (do_val (de_ix hK (do_pk (i := 1)) (do_val (de_int)))) (da_nil))))) (dw_or1 (dt_not (dt_chain (o_le) (o_le) (do_val (de_int)) (do_val (de_ix hK (do_val (de_ix hK (do_pk (i := 1)) (do_val (de_int)))) (do_val (de_int)))) (do_val (de_ix hK (do_val (de_ix hK (do_pk (i := 1)) (do_val (de_int)))) (do_val (de_int)))))))))) (ds_one (ds_ret (de_bl))) (ds_nil))))) (
    ds_one (ds_ret (de_and (de_cmp (o_eq (hu hr) hK) (do_val (de_ix hK (do_val (de_ix hK (do_pk (i := 0)) (do_val (de_int)))) (do_val (de_int)))) (do_val (de_int))) (de_one (de_callB (c_all rfl) (by rfl) L.z_all bt_all (da_cons (do_val (de_lc (n := 3) (own := [("k", 2)]) rfl sc__law_scale_due.nd (di_rng1 (by rfl) L.z_range (da_cons (do_val (de_op (o_sub) (do_val (de_callB (c_len hK) (by rfl) L.z_len bt_len (da_cons (do_pk (i := 0)) (da_nil)))) (do_val (de_int)))) (da_nil))) (blkOk_by (N := ["value", "step", "k"]) (sc := C8.fnScope s__law_scale_due) (by decide +kernel)) (fun _ _ _ _ _ => dg_name (i := 2) sc__law_scale_due.nd) (fun _ _ _ _ _ => dts_nil) (fun _ _ _ _ _ => de_cmp (o_lt (hu hr) hK) (do_val (de_ix hK (do_val (de_ix hK (do_pk (i := 0)) (do_pk (i := 2)))) (do_val (de_int)))) (do_val (de_ix hK (do_val (de_ix hK (do_pk (i := 0)) (do_val (de_op (o_add hK) (do_pk (i := 2)) (do_val (de_int)))))) (do_val (de_int))))))) (da_nil))))))))
/-! _law_scale -/
abbrev s__law_scale : Stmt := topS 38
theorem sc__law_scale : FnScope ["box", "starts", "k", "steps", "start", "q"] ["box"] (C8.fnScope s__law_scale) := ⟨rfl, rfl, rfl, by decide +kernel, rfl, by decide +kernel, by decide +kernel⟩
def b__law_scale : FS :=
  sSeq (sAsg (gNm 1) (fN semLst (aCons (oV (fCon (.int 0))) (aNil)))) (
  sSeq (sFor (fiA (onD rng1) (aCons (oV (fOp2 semMul (oV (fCall 2 [0] m__law_draw (aCons (oP 0) (aCons (oV (fCon (.int 5))) (aNil))))) (oV (fCall 2 [0] m__law_draw (aCons (oP 0) (aCons (oV (fCon (.int 4))) (aNil))))))) (aNil))) (gNm 2) (sDrop (fMt 1 semAppend (aCons (oV (fSh (fOp2 semAdd (oV (fCon (.int 1))) (oV (fCall 2 [0] m__law_draw (aCons (oP 0) (aCons (oV (fOp2 semIx (oV (fN semLst (aCons (oV (fCon (.int 60))) (aCons (oV (fSh (fOp2 semPow (oV (fCon (.int 10))) (oV (fCon (.int 5)))))) (aCons (oV (fSh (fOp2 semPow (oV (fCon (.int 10))) (oV (fCon (.int 9)))))) (aNil)))))) (oV (fCall 2 [0] m__law_draw (aCons (oP 0) (aCons (oV (fCon (.int 3))) (aNil))))))) (aNil)))))))) (aNil))))) (
  sSeq (sAsg (gNm 3) (fN semLst (aNil))) (
  sSeq (sFor (fiSeq (fSl (oV (fSortSet (fVar 1))) (fPN) (fPS (fCon (.int 12))))) (gNm 4) (sSeq (sAsg (gNm 5) (fOp2 semAdd (oV (fCon (.int 1))) (oV (fCall 2 [0] m__law_draw (aCons (oP 0) (aCons (oV (fOp2 semIx (oV (fN semLst (aCons (oV (fCon (.int 4))) (aCons (oV (fCon (.int 100))) (aCons (oV (fCon (.int 1000))) (aNil)))))) (oV (fCall 2 [0] m__law_draw (aCons (oP 0) (aCons (oV (fCon (.int 3))) (aNil))))))) (aNil))))))) (
  sDrop (fMt 3 semAppend (aCons (oV (fN semTup (aCons (oV (fVar 4)) (aCons (oV (fSh (fCall 2 [] m__law_lowest (aCons (oV (fCall 2 [0] m__law_draw (aCons (oP 0) (aCons (oV (fOp2 semAdd (oP 5) (oV (fCon (.int 1))))) (aNil))))) (aCons (oV (fVar 5)) (aNil)))))) (aNil))))) (aNil)))))) (
  sRet (fN semTupOf (aCons (oP 3) (aNil)))))))
def m__law_scale : SemF := runD 6 [0] b__law_scale
theorem cal__law_scale (L : Lw K mg c) {a cd : Addr} {fd : FuncData} (F : DefC K mg "_law_scale" s__law_scale a fd cd) (b : Binds K fd ["box"] []) (c__law_draw : C8.Cal P w K mg base 2 "_law_draw" (spD c 2 [0] m__law_draw) []) (c__law_lowest : C8.Cal P w K mg base 2 "_law_lowest" (spD c 2 [] m__law_lowest) []) : C8.Cal P w K mg base 3 "_law_scale" (spD c 1 [0] m__law_scale) [] := by
  have hK := L.hK
  refine calDc F b sc__law_scale rfl (by decide) fun A outer s H E hr => ?_
  delta b__law_scale
  exact ds_cons (ds_set (i := 1) sc__law_scale.nd (de_lst (da_cons (do_val (de_int)) (da_nil)))) (
    ds_cons (ds_for PassesOwn.never rfl (di_rng1 (by rfl) L.z_range (da_cons (do_val (de_op (o_mul) (do_val (de_call c__law_draw hr (by omega) (by rfl) (da_cons (do_pk (i := 0)) (da_cons (do_val (de_int)) (da_nil))))) (do_val (de_call c__law_draw hr (by omega) (by rfl) (da_cons (do_pk (i := 0)) (da_cons (do_val (de_int)) (da_nil))))))) (da_nil))) (dg_name (i := 2) sc__law_scale.nd) (ds_one (ds_expr (de_mt (i := 1) hK PySem.F.slot_list_append PySem.F.type_list_append m_append (da_cons (do_val (de_sh (de_op (o_add hK) (do_val (de_int)) (do_val (de_call c__law_draw hr (by omega) (by rfl) (da_cons (do_pk (i := 0)) (da_cons (do_val (de_ix hK (do_val (de_lst (da_cons (do_val (de_int)) (da_cons (do_val (de_sh (de_op (o_pow) (do_val (de_int)) (do_val (de_int))))) (da_cons (do_val (de_sh (de_op (o_pow) (do_val (de_int)) (do_val (de_int))))) (da_nil)))))) (do_val (de_call c__law_draw hr (by omega) (by rfl) (da_cons (do_pk (i := 0)) (da_cons (do_val (de_int)) (da_nil))))))) (da_nil)))))))) (da_nil)))))) (
    ds_cons (ds_set (i := 3) sc__law_scale.nd (de_lst (da_nil))) (
    ds_cons (ds_for PassesOwn.never rfl (di_seq hK (de_slice hK (do_val (de_sortSet hK rfl (by rfl) L.z_sorted (by rfl) L.z_set (de_var (i := 1)))) (dp_none) (dp_some (de_int)))) (dg_name (i := 4) sc__law_scale.nd) (ds_cons (ds_set (i := 5) sc__law_scale.nd (de_op (o_add hK) (do_val (de_int)) (do_val (de_call c__law_draw hr (by omega) (by rfl) (da_cons (do_pk (i := 0)) (da_cons (do_val (de_ix hK (do_val (de_lst (da_cons (do_val (de_int)) (da_cons (do_val (de_int)) (da_cons (do_val (de_int)) (da_nil)))))) (do_val (de_call c__law_draw hr (by omega) (by rfl) (da_cons (do_pk (i := 0)) (da_cons (do_val (de_int)) (da_nil))))))) (da_nil))))))) (
    ds_one (ds_expr (de_mt (i := 3) hK PySem.F.slot_list_append PySem.F.type_list_append m_append (da_cons (do_val (de_tup (da_cons (do_val (de_var (i := 4))) (da_cons (do_val (de_sh (de_call c__law_lowest hr (by omega) (by rfl) (da_cons (do_val (de_call c__law_draw hr (by omega) (by rfl) (da_cons (do_pk (i := 0)) (da_cons (do_val (de_op (o_add hK) (do_pk (i := 5)) (do_val (de_int)))) (da_nil))))) (da_cons (do_val (de_var (i := 5))) (da_nil)))))) (da_nil))))) (da_nil))))))) (
    ds_one (ds_ret (de_callTy (c_tupOf hK) (by rfl) L.z_tuple bt_tuple (da_cons (do_pk (i := 3)) (da_nil))))))))
/-! _law_fee -/
abbrev s__law_fee : Stmt := topS 39
theorem sc__law_fee : FnScope ["scale", "worth", "p", "q", "k", "end", "part", "rate"] ["scale", "worth"] (C8.fnScope s__law_fee) := ⟨rfl, rfl, rfl, by decide +kernel, rfl, by decide +kernel, by decide +kernel⟩
def b__law_fee : FS :=
  sSeq (sAsg (gTp 2 (gsCons (gNm 2) (gsCons (gNm 3) (gsNil)))) (fN semTup (aCons (oV (fCon (.int 0))) (aCons (oV (fCon (.int 1))) (aNil))))) (
  sSeq (sFor (fiA (onD rng1) (aCons (oV (fN semLen (aCons (oP 0) (aNil)))) (aNil))) (gNm 4) (sSeq (sAsg (gNm 5) (fIf (tB1 (fOp2 semLt (oV (fOp2 semAdd (oP 4) (oV (fCon (.int 1))))) (oV (fN semLen (aCons (oP 0) (aNil)))))) (fOp2 semIx (oV (fOp2 semIx (oP 0) (oV (fOp2 semAdd (oP 4) (oV (fCon (.int 1))))))) (oV (fCon (.int 0)))) (fOp2 semPow (oV (fCon (.int 10))) (oV (fCon (.int 9)))))) (
  sSeq (sAsg (gNm 6) (fN semMax2 (aCons (oV (fCon (.int 0))) (aCons (oV (fOp2 semSub (oV (fN semMin2 (aCons (oP 1) (aCons (oP 5) (aNil))))) (oV (fOp2 semIx (oV (fOp2 semIx (oP 0) (oP 4))) (oV (fCon (.int 0))))))) (aNil))))) (
  sSeq (sAsg (gNm 7) (fOp2 semIx (oV (fOp2 semIx (oP 0) (oP 4))) (oV (fCon (.int 1))))) (
  sPar 2 3 (aCons (oV (fOp2 semAdd (oV (fOp2 semMul (oP 2) (oV (fOp2 semIx (oP 7) (oV (fCon (.int 1))))))) (oV (fOp2 semMul (oV (fOp2 semMul (oP 6) (oV (fOp2 semIx (oP 7) (oV (fCon (.int 0))))))) (oP 3))))) (aCons (oV (fOp2 semMul (oP 3) (oV (fOp2 semIx (oP 7) (oV (fCon (.int 1))))))) (aNil)))))))) (
  sRet (fCall 2 [] m__law_lowest (aCons (oV (fVar 2)) (aCons (oV (fVar 3)) (aNil))))))
def m__law_fee : SemF := runD 8 [] b__law_fee
theorem cal__law_fee (L : Lw K mg c) {a cd : Addr} {fd : FuncData} (F : DefC K mg "_law_fee" s__law_fee a fd cd) (b : Binds K fd ["scale", "worth"] []) (c__law_lowest : C8.Cal P w K mg base 2 "_law_lowest" (spD c 2 [] m__law_lowest) []) : C8.Cal P w K mg base 3 "_law_fee" (spD c 2 [] m__law_fee) [] := by
  have hK := L.hK
  refine calDc F b sc__law_fee rfl (by decide) fun A outer s H E hr => ?_
  delta b__law_fee
  exact ds_cons (ds_asg (de_tup (da_cons (do_val (de_int)) (da_cons (do_val (de_int)) (da_nil)))) (dg_tup hK rfl (dgs_cons (dg_name (i := 2) sc__law_fee.nd) (dgs_cons (dg_name (i := 3) sc__law_fee.nd) (dgs_nil))))) (
    ds_cons (ds_for PassesOwn.never rfl (di_rng1 (by rfl) L.z_range (da_cons (do_val (de_callB (c_len hK) (by rfl) L.z_len bt_len (da_cons (do_pk (i := 0)) (da_nil)))) (da_nil))) (dg_name (i := 4) sc__law_fee.nd) (ds_cons (ds_set (i := 5) sc__law_fee.nd (de_if (dt_cmp (o_lt (hu hr) hK) (do_val (de_op (o_add hK) (do_pk (i := 4)) (do_val (de_int)))) (do_val (de_callB (c_len hK) (by rfl) L.z_len bt_len (da_cons (do_pk (i := 0)) (da_nil))))) (de_ix hK (do_val (de_ix hK (do_pk (i := 0)) (do_val (de_op (o_add hK) (do_pk (i := 4)) (do_val (de_int)))))) (do_val (de_int))) (de_op (o_pow) (do_val (de_int)) (do_val (de_int))))) (
    ds_cons (ds_set (i := 6) sc__law_fee.nd (de_callB (c_max2 rfl) (by rfl) L.z_max bt_max (da_cons (do_val (de_int)) (da_cons (do_val (de_op (o_sub) (do_val (de_callB (c_min2 rfl) (by rfl) L.z_min bt_min (da_cons (do_pk (i := 1)) (da_cons (do_pk (i := 5)) (da_nil))))) (do_val (de_ix hK (do_val (de_ix hK (do_pk (i := 0)) (do_pk (i := 4)))) (do_val (de_int)))))) (da_nil))))) (
    ds_cons (ds_set (i := 7) sc__law_fee.nd (de_ix hK (do_val (de_ix hK (do_pk (i := 0)) (do_pk (i := 4)))) (do_val (de_int)))) (
    ds_one (ds_par2 (i := 2) (j := 3) sc__law_fee.nd (da_cons (do_val (de_op (o_add hK) (do_val (de_op (o_mul) (do_pk (i := 2)) (do_val (de_ix hK (do_pk (i := 7)) (do_val (de_int)))))) (do_val (de_op (o_mul) (do_val (de_op (o_mul) (do_pk (i := 6)) (do_val (de_ix hK (do_pk (i := 7)) (do_val (de_int)))))) (do_pk (i := 3)))))) (da_cons (do_val (de_op (o_mul) (do_pk (i := 3)) (do_val (de_ix hK (do_pk (i := 7)) (do_val (de_int)))))) (da_nil))))))))) (
    ds_one (ds_ret (de_call c__law_lowest hr (by omega) (by rfl) (da_cons (do_val (de_var (i := 2))) (da_cons (do_val (de_var (i := 3))) (da_nil)))))))
/-! _law_round -/
abbrev s__law_round : Stmt := topS 40
theorem sc__law_round : FnScope ["a"] ["a"] (C8.fnScope s__law_round) := ⟨rfl, rfl, rfl, by decide +kernel, rfl, by decide +kernel, by decide +kernel⟩
def b__law_round : FS :=
  sRet (fOp2 semFdiv (oV (fOp2 semAdd (oV (fOp2 semMul (oV (fCon (.int 2))) (oV (fOp2 semIx (oP 0) (oV (fCon (.int 0))))))) (oV (fOp2 semIx (oP 0) (oV (fCon (.int 1))))))) (oV (fOp2 semMul (oV (fCon (.int 2))) (oV (fOp2 semIx (oP 0) (oV (fCon (.int 1))))))))
def m__law_round : SemF := runD 1 [] b__law_round
theorem cal__law_round (L : Lw K mg c) {a cd : Addr} {fd : FuncData} (F : DefC K mg "_law_round" s__law_round a fd cd) (b : Binds K fd ["a"] [])  : C8.Cal P w K mg base 1 "_law_round" (spD c 1 [] m__law_round) [] := by
  have hK := L.hK
  refine calDc F b sc__law_round rfl (by decide) fun A outer s H E hr => ?_
  delta b__law_round
  exact ds_one (ds_ret (de_op (o_fdiv) (do_val (de_op (o_add hK) (do_val (de_op (o_mul) (do_val (de_int)) (do_val (de_ix hK (do_pk (i := 0)) (do_val (de_int)))))) (do_val (de_ix hK (do_pk (i := 0)) (do_val (de_int)))))) (do_val (de_op (o_mul) (do_val (de_int)) (do_val (de_ix hK (do_pk (i := 0)) (do_val (de_int))))))))
/-- the class NoAnswer, and what isinstance asks of its instances -/
structure ExT (K : PySem.W.Frag) (mg : Str → Option Value) (C C1 C2 C3 C4 : Addr) : Prop where
  gC : mg "NoAnswer" = some (.ref C)
  xC : PySem.W.excIn K C [.type "ValueError", .type "Exception", .type "BaseException", .type "object"] "ValueError.__new__" = true
  kC : PySem.W.keepIn K (.ref C) = true
  tC : PySem.W.typeIn K (.ref C) = some (.type "type")
  sC : PySem.W.subIn K (.ref C) (.ref C) = some true
  ec : ExcC K C
  g1 : mg "BadText" = some (.ref C1)
  g2 : mg "NotAllowed" = some (.ref C2)
  g3 : mg "NotPossible" = some (.ref C3)
  g4 : mg "TooMany" = some (.ref C4)
  ki : PySem.W.kitAny K (.ref C) [.ref C1, .ref C2, .ref C3, .ref C4] = some false
variable {C C1 C2 C3 C4 : Addr}
theorem ExT.te (T : ExT K mg C C1 C2 C3 C4) : PySem.W.exmOne K (.ref C) (.ref C) = some true := PySem.W.exm_ref T.ec.hs T.ec.hd T.tC T.sC
/-! worth_for where it raises -/
def asg1 : FS := sPar 2 3 (aCons (oV (fCon (.int 0))) (aCons (oV (fCon k_MAX_WORTH)) (aNil)))
def cnd1 : FT := tB1 (fOp2 semLt (oV (fCall 2 [] m_fee_cents (aCons (oV (fVar 0)) (aCons (oV (fVar 3)) (aNil))))) (oP 1))
def raises (rs : List MV) : M Bool := do
  let (fl, S) ← asg1 (rs.map some ++ List.replicate 3 none)
  match fl with
  | .nx => do
    let (b, _) ← cnd1 S
    pure b
  | _ => stk
def spR (c : Gh) (C : Addr) : Sp := fun vs H Q E => ∃ G R rs, Rel c G H (zp3 rs vs ++ R) ∧ rs.length = 2 ∧ vs.length = 2 ∧ raises rs = .ok true ∧ ∀ G' H', Sub G G' → Rel c G' H' R → E (.ref C) none H'
theorem void_ps {X : Cx} {st : List Stmt} : PSs X st (fun _ _ _ => False) := ⟨fun _ _ _ _ _ _ h => h.elim⟩
theorem void_p {X : Cx} {st : Stmt} : PS X st (fun _ _ _ => False) := ⟨fun _ _ _ _ _ _ h => h.elim⟩
theorem fn_worth (L : Lw K mg c) (T : ExT K mg C C1 C2 C3 C4) {a cd : Addr} {fd : FuncData} (F : DefC K mg "worth_for" s_worth_for a fd cd) (c_fee_cents : C8.Cal P w K mg base 4 "fee_cents" (spD c 2 [] m_fee_cents) []) :
    FnOk P w K mg base (L2.CX P w) 5 a fd ["scale", "cents"] (spR c C) := by
  have hK := L.hK
  obtain ⟨oc, od, dV, kV, doc, pm, an, ct, osl, rfl, lk, hcd⟩ := F.fn
  refine fn_of lk hcd sc_worth_for (fun vs H Q E h => ?_) fun A outer s H vs Q E hr h => ⟨tSeq (tS c [] asg1) (tSeq (tIfS (tT c cnd1) (fun _ σ H => E (.ref C) none H) tNext) (fun _ _ _ => False)), ?_, ?_⟩
  · obtain ⟨G, R, rs, _, _, hl, _⟩ := h
    exact hl
  · refine pss_cons ?_ (pss_cons (ps_if ?_ (pss_one (L2.ps_raise (W := fun cls d _ H => E cls d H) (t := fun _ H Q => Q (.ref C) none H) rfl (L2.takes_of rfl rfl rfl rfl) ?_)) pss_nil) void_ps)
    · exact ds_par2 (i := 2) (j := 3) sc_worth_for.nd (da_cons (do_val (de_int)) (da_cons (do_val (de_glob (d := k_MAX_WORTH) (by rfl) L.g_MAX_WORTH)) (da_nil)))
    · exact dt_cmp (o_lt (hu hr) hK) (do_val (de_call c_fee_cents hr (by omega) (by rfl) (da_cons (do_val (de_var (i := 0))) (da_cons (do_val (de_var (i := 3))) (da_nil))))) (do_pk (i := 1))
    · exact pmk_own0 PySem.F.excBase_ValueError T.xC T.gC T.kC (L2.raises_own T.ec.hs T.tC) rfl
  · obtain ⟨G, R, rs, rl, hl, hv, e, k⟩ := h
    obtain ⟨⟨fl, S⟩, e1, e⟩ := bind_ok e
    dsimp only at e
    cases fl with
    | nx =>
      obtain ⟨⟨b, S2⟩, e2, e⟩ := bind_ok e
      cases e
      have hlv : rs.length = vs.length := by omega
      have e0 : L2.start ["scale", "cents", "low", "high", "middle"] vs = vs.map some ++ List.replicate 3 none := by unfold L2.start; rw [hv]; rfl
      refine ⟨G, rs.map some ++ List.replicate 3 none, R, ?_, .nx, S, e1, ?_⟩
      · rw [e0]
        refine ⟨cov_start hlv, ?_⟩
        rw [prs_start hlv]
        exact rl.perm List.perm_append_comm
      · intro G' σ' H' s1 p ok
        refine ⟨G', S, R, ok, true, S2, e2, fun G2 H2 s2 ok2 => ?_⟩
        show E (.ref C) none H2
        exact k G2 H2 (s1.trans s2) (ok2.rel.sublist (List.sublist_append_left _ _))
    | rt r => cases e
    | bk => cases e
    | ct => cases e
/-! _law_refused -/
def m__law_refused : SemF := fun rs => do
  let b ← raises rs
  if b then pure ((.sh, .bool true), []) else stk
abbrev s__law_refused : Stmt := topS 41
theorem sc__law_refused : FnScope ["scale", "cents", "told", "e"] ["scale", "cents"] (C8.fnScope s__law_refused) := ⟨rfl, rfl, rfl, by decide +kernel, rfl, by decide +kernel, by decide +kernel⟩
def tSuite (K : PySem.W.Frag) (C C1 C2 C3 C4 : Addr) : Addr → Value → Option Addr → TS := fun a cls d D σ H => cls = .ref C ∧ d = none ∧
  tSeq (tAsg (tC (.str "none")) (gName 2)) (tIfS (tB (tCB (rIsET K C a) (tCons (tVar 3) (tCons (tTup (tCons (tC (.ref C1)) (tCons (tC (.ref C2)) (tCons (tC (.ref C3)) (tCons (tC (.ref C4)) tNil))))) tNil)))) (fun _ _ _ => False) tNext) D σ H
def tRefused (K : PySem.W.Frag) (c : Gh) (C C1 C2 C3 C4 : Addr) : TS := tSeq (tAsg (tC .non) (gName 2)) (tSeq (fun D σ H => (tSeq (tDrop (tCallS (spR c C) (WE (wAs K (.ref C) 3 (tSuite K C C1 C2 C3 C4) (fun _ _ _ _ => False) D)) (tCons (tVar 0) (tCons (tVar 1) tNil)))) (fun _ _ _ => False)) D σ H) (tRet (tOp rEq (tVar 2) (tC (.str "none")))))
theorem suite_ps {X : Cx} {st : List Stmt} {cls : Value} {d : Option Addr} {t : TS} (h : cls = .ref C → d = none → PSs X st t) : PSs X st (fun D σ H => cls = .ref C ∧ d = none ∧ t D σ H) := ⟨fun pins s σ H D I q => (h q.1 q.2.1).run pins s σ H D I q.2.2⟩
theorem cal__law_refused (L : Lw K mg c) (T : ExT K mg C C1 C2 C3 C4) (zi : mg "isinstance" = none) {a cd a2 cd2 : Addr} {fd fd2 : FuncData} (F : DefC K mg "_law_refused" s__law_refused a fd cd) (b : Binds K fd ["scale", "cents"] []) (F2 : DefC K mg "worth_for" s_worth_for a2 fd2 cd2) (b2 : Binds K fd2 ["scale", "cents"] [])
    (c_fee_cents : C8.Cal P w K mg base 4 "fee_cents" (spD c 2 [] m_fee_cents) []) : C8.Cal P w K mg base 6 "_law_refused" (spD c 2 [] m__law_refused) [] := by
  have hK := L.hK
  have GT := fn_worth (base := base) (P := P) (w := w) L T F2 c_fee_cents
  refine calRaw F b sc__law_refused rfl fun A outer s H E hr => ⟨tRefused K c C C1 C2 C3 C4, ?_, fun vs Q h => ?_⟩
  · refine pss_cons ?_ (pss_cons ?_ (pss_one ?_))
    · exact ps_set (i := 2) sc__law_refused.nd rfl (.inl rfl) pe_non
    · refine L2.ps_try_as (i := 3) (ts := tSuite K C C1 C2 C3 C4) (Wout := fun _ _ _ _ => False) (tb := fun W => tSeq (tDrop (tCallS (spR c C) (WE W) (tCons (tVar 0) (tCons (tVar 1) tNil)))) (fun _ _ _ => False)) rfl rfl sc__law_refused.nd rfl rfl ⟨rfl, by decide, .inl T.gC⟩ L2.takes0 (fun W pn xe tk _ => ?_) (fun a oe cls d pn hz hf => suite_ps fun e1 e2 => ?_)
      · refine pss_cons (ps_expr ?_) void_ps
        exact L2.pe_callS GT hr rfl F2.mgf F2.kp b2 (fun σ => L2.passAt tk σ) (by exact pa_cons (pv 0) (pa_cons (pv 1) pa_nil))
      · subst e1 e2
        refine pss_cons ?_ (pss_one (ps_if (pt_val ?_) void_ps pss_nil))
        · exact ps_set (i := 2) sc__law_refused.nd rfl (.inl rfl) pe_str
        · exact pe_callB (call_isET T.ec hz hf) (by rfl) zi (by decide +kernel) (by exact pa_cons (pv 3) (pa_cons (pe_tup (pa_cons (pe_glob rfl T.g1 rfl) (pa_cons (pe_glob rfl T.g2 rfl) (pa_cons (pe_glob rfl T.g3 rfl) (pa_cons (pe_glob rfl T.g4 rfl) pa_nil))))) pa_nil))
    · exact ps_ret (pe_cmpR op_eq (pv 2) pe_str (nomark _))
  obtain ⟨G, R, rs, rl, hl, hv, r, fs, e, k⟩ := h
  obtain ⟨bb, e1, e⟩ := bind_ok e
  cases bb with
  | false => cases e
  | true =>
    cases e
    match vs, hv with
    | [v0, v1], _ =>
      refine ⟨v0, rfl, v1, rfl, G, R, rs, rl, hl, rfl, e1, fun G' H' s1 r' => ⟨true, T.te, fun _ a ha => ⟨rfl, rfl, ?_⟩, fun q => nomatch q⟩⟩
      refine ⟨_, rfl, ⟨by show 4 ≤ sizeLine; decide, fun p hp => ⟨p, _, [.ref C1, .ref C2, .ref C3, .ref C4], false, rfl, upd_same, .cons (.own _) (.cons (.own _) (.cons (.own _) (.cons (.own _) .nil))), T.ki, false, rfl, ?_⟩⟩⟩
      refine ⟨_, rfl, rfl, ?_⟩
      exact k G' _ _ s1 ((r'.laid hp).put_sh (.bl true))

/-! _law_worth_fine -/
abbrev s__law_worth_fine : Stmt := topS 42
theorem sc__law_worth_fine : FnScope ["scale", "cents", "told"] ["scale", "cents"] (C8.fnScope s__law_worth_fine) := ⟨rfl, rfl, rfl, by decide +kernel, rfl, by decide +kernel, by decide +kernel⟩
def b__law_worth_fine : FS :=
  sSeq (sIf (tB1 (fOp2 semLt (oV (fCall 1 [] m__law_round (aCons (oV (fCall 2 [] m__law_fee (aCons (oV (fVar 0)) (aCons (oV (fOp2 semPow (oV (fCon (.int 10))) (oV (fCon (.int 9))))) (aNil))))) (aNil)))) (oP 1))) (sRet (fCall 2 [] m__law_refused (aCons (oV (fVar 0)) (aCons (oV (fVar 1)) (aNil))))) (sNil)) (
  sSeq (sAsg (gNm 2) (fCall 2 [] m_worth_for (aCons (oV (fVar 0)) (aCons (oV (fVar 1)) (aNil))))) (
  sSeq (sIf (fOrT (fNotT (tB1 (fO1 (semIsT .int) (oP 2)))) (fOrT (tB1 (fO1 (semIsT .bool) (oP 2))) (fNotT (tB1 (fChain semLeI semLeI (oV (fCon (.int 0))) (oP 2) (oV (fOp2 semPow (oV (fCon (.int 10))) (oV (fCon (.int 9)))))))))) (sRet (fCon (.bool false))) (sNil)) (
  sSeq (sIf (tB1 (fOp2 semLt (oV (fCall 1 [] m__law_round (aCons (oV (fCall 2 [] m__law_fee (aCons (oV (fVar 0)) (aCons (oV (fVar 2)) (aNil))))) (aNil)))) (oP 1))) (sRet (fCon (.bool false))) (sNil)) (
  sRet (fOrV (fOp2 semEq (oP 2) (oV (fCon (.int 0)))) (fOp2 semLt (oV (fCall 1 [] m__law_round (aCons (oV (fCall 2 [] m__law_fee (aCons (oV (fVar 0)) (aCons (oV (fOp2 semSub (oP 2) (oV (fCon (.int 1))))) (aNil))))) (aNil)))) (oP 1)))))))
def m__law_worth_fine : SemF := runD 3 [] b__law_worth_fine
theorem cal__law_worth_fine (L : Lw K mg c) {a cd : Addr} {fd : FuncData} (F : DefC K mg "_law_worth_fine" s__law_worth_fine a fd cd) (b : Binds K fd ["scale", "cents"] []) (c__law_round : C8.Cal P w K mg base 1 "_law_round" (spD c 1 [] m__law_round) []) (c__law_fee : C8.Cal P w K mg base 3 "_law_fee" (spD c 2 [] m__law_fee) []) (c__law_refused : C8.Cal P w K mg base 6 "_law_refused" (spD c 2 [] m__law_refused) []) (c_worth_for : C8.Cal P w K mg base 5 "worth_for" (spD c 2 [] m_worth_for) []) : C8.Cal P w K mg base 7 "_law_worth_fine" (spD c 2 [] m__law_worth_fine) [] := by
  have hK := L.hK
  refine calDc F b sc__law_worth_fine rfl (by decide) fun A outer s H E hr => ?_
  delta b__law_worth_fine
  exact ds_cons (ds_if (dt_cmp (o_lt (hu hr) hK) (do_val (de_call c__law_round hr (by omega) (by rfl) (da_cons (do_val (de_call c__law_fee hr (by omega) (by rfl) (da_cons (do_val (de_var (i := 0))) (da_cons (do_val (de_op (o_pow) (do_val (de_int)) (do_val (de_int)))) (da_nil))))) (da_nil)))) (do_pk (i := 1))) (ds_one (ds_ret (de_call c__law_refused hr (by omega) (by rfl) (da_cons (do_val (de_var (i := 0))) (da_cons (do_val (de_var (i := 1))) (da_nil)))))) (ds_nil)) (
    ds_cons (ds_set (i := 2) sc__law_worth_fine.nd (de_call c_worth_for hr (by omega) (by rfl) (da_cons (do_val (de_var (i := 0))) (da_cons (do_val (de_var (i := 1))) (da_nil))))) (
    ds_cons (ds_if (dt_w (dw_or (dt_not (dt_val (de_isT .int hK (by rfl) L.z_isinstance (by rfl) L.z_int bt_int (do_pk (i := 2))))) (dw_or (dt_val (de_isT .bool hK (by rfl) L.z_isinstance (by rfl) L.z_bool bt_bool (do_pk (i := 2)))) (dw_or1 (dt_not (dt_chain (o_le) (o_le) (do_val (de_int)) (do_pk (i := 2)) (do_val (de_op (o_pow) (do_val (de_int)) (do_val (de_int)))))))))) (ds_one (ds_ret (de_bl))) (ds_nil)) (
    ds_cons (ds_if (dt_cmp (o_lt (hu hr) hK) (do_val (de_call c__law_round hr (by omega) (by rfl) (da_cons (do_val (de_call c__law_fee hr (by omega) (by rfl) (da_cons (do_val (de_var (i := 0))) (da_cons (do_val (de_var (i := 2))) (da_nil))))) (da_nil)))) (do_pk (i := 1))) (ds_one (ds_ret (de_bl))) (ds_nil)) (
    ds_one (ds_ret (de_or (de_cmp (o_eq (hu hr) hK) (do_pk (i := 2)) (do_val (de_int))) (de_one (de_cmp (o_lt (hu hr) hK) (do_val (de_call c__law_round hr (by omega) (by rfl) (da_cons (do_val (de_call c__law_fee hr (by omega) (by rfl) (da_cons (do_val (de_var (i := 0))) (da_cons (do_val (de_op (o_sub) (do_pk (i := 2)) (do_val (de_int)))) (da_nil))))) (da_nil)))) (do_pk (i := 1))))))))))
/-! _law_ratios_fine -/
abbrev s__law_ratios_fine : Stmt := topS 43
theorem sc__law_ratios_fine : FnScope ["box", "p", "q", "r", "s", "a", "b", "value", "k"] ["box"] (C8.fnScope s__law_ratios_fine) := ⟨rfl, rfl, rfl, by decide +kernel, rfl, by decide +kernel, by decide +kernel⟩
def b__law_ratios_fine : FS :=
  sSeq (sAsg (gTp 4 (gsCons (gNm 1) (gsCons (gNm 2) (gsCons (gNm 3) (gsCons (gNm 4) (gsNil)))))) (fN semTup (aCons (oV (fSh (fCall 1 [0] m__law_integer (aCons (oP 0) (aNil))))) (aCons (oV (fSh (fCall 1 [0] m__law_integer (aCons (oP 0) (aNil))))) (aCons (oV (fSh (fCall 1 [0] m__law_integer (aCons (oP 0) (aNil))))) (aCons (oV (fSh (fCall 1 [0] m__law_integer (aCons (oP 0) (aNil))))) (aNil))))))) (
  sSeq (sPar 2 4 (aCons (oV (fIf (tB1 (fOp2 semNe (oP 2) (oV (fCon (.int 0))))) (fVar 2) (fCon (.int 1)))) (aCons (oV (fIf (tB1 (fOp2 semNe (oP 4) (oV (fCon (.int 0))))) (fVar 4) (fUn semNeg (fCon (.int 2))))) (aNil)))) (
  sSeq (sAsg (gTp 2 (gsCons (gNm 5) (gsCons (gNm 6) (gsNil)))) (fN semTup (aCons (oV (fSh (fCall 2 [] m__law_lowest (aCons (oV (fVar 1)) (aCons (oV (fVar 2)) (aNil)))))) (aCons (oV (fSh (fCall 2 [] m__law_lowest (aCons (oV (fVar 3)) (aCons (oV (fVar 4)) (aNil)))))) (aNil))))) (
  sSeq (sIf (fOrT (fNotT (tB1 (fCall 2 [] (m__law_same 8) (aCons (oV (fCall 2 [] m_ratio (aCons (oV (fVar 1)) (aCons (oV (fVar 2)) (aNil))))) (aCons (oV (fVar 5)) (aNil)))))) (fOrT (fNotT (tB1 (fCall 2 [] (m__law_same 8) (aCons (oV (fCall 1 [] m_is_ratio (aCons (oV (fVar 5)) (aNil)))) (aCons (oV (fCon (.bool true))) (aNil)))))) (fNotT (tB1 (fCall 2 [] (m__law_same 8) (aCons (oV (fCall 2 [] m_ratio (aCons (oV (fCon (.int 0))) (aCons (oV (fVar 2)) (aNil))))) (aCons (oV (fN semTup (aCons (oV (fCon (.int 0))) (aCons (oV (fCon (.int 1))) (aNil))))) (aNil)))))))) (sRet (fCon (.bool false))) (sNil)) (
  sSeq (sIf (fOrT (fNotT (tB1 (fCall 2 [] (m__law_same 8) (aCons (oV (fCall 2 [] m_plus (aCons (oV (fVar 5)) (aCons (oV (fVar 6)) (aNil))))) (aCons (oV (fCall 2 [] m__law_lowest (aCons (oV (fOp2 semAdd (oV (fOp2 semMul (oP 1) (oP 4))) (oV (fOp2 semMul (oP 3) (oP 2))))) (aCons (oV (fOp2 semMul (oP 2) (oP 4))) (aNil))))) (aNil)))))) (fNotT (tB1 (fCall 2 [] (m__law_same 8) (aCons (oV (fCall 2 [] m_times (aCons (oV (fVar 5)) (aCons (oV (fVar 6)) (aNil))))) (aCons (oV (fCall 2 [] m__law_lowest (aCons (oV (fOp2 semMul (oP 1) (oP 3))) (aCons (oV (fOp2 semMul (oP 2) (oP 4))) (aNil))))) (aNil))))))) (sRet (fCon (.bool false))) (sNil)) (
  sSeq (sIf (fOrT (fNotT (tB1 (fCall 2 [] (m__law_same 8) (aCons (oV (fCall 2 [] m_less (aCons (oV (fVar 5)) (aCons (oV (fVar 6)) (aNil))))) (aCons (oV (fOp2 semLt (oV (fOp2 semMul (oV (fOp2 semIx (oP 5) (oV (fCon (.int 0))))) (oV (fOp2 semIx (oP 6) (oV (fCon (.int 1))))))) (oV (fOp2 semMul (oV (fOp2 semIx (oP 6) (oV (fCon (.int 0))))) (oV (fOp2 semIx (oP 5) (oV (fCon (.int 1))))))))) (aNil)))))) (fNotT (tB1 (fCall 2 [] (m__law_same 8) (aCons (oV (fCall 2 [] m_less (aCons (oV (fVar 5)) (aCons (oV (fVar 5)) (aNil))))) (aCons (oV (fCon (.bool false))) (aNil))))))) (sRet (fCon (.bool false))) (sNil)) (
  sSeq (sIf (fOrT (fNotT (tB1 (fCall 2 [] (m__law_same 8) (aCons (oV (fCall 1 [] m_rounded (aCons (oV (fVar 5)) (aNil)))) (aCons (oV (fCall 1 [] m__law_round (aCons (oV (fVar 5)) (aNil)))) (aNil)))))) (fNotT (tB1 (fCall 2 [] (m__law_same 8) (aCons (oV (fCall 1 [] m_rounded (aCons (oV (fCall 2 [] m__law_lowest (aCons (oV (fOp2 semAdd (oV (fOp2 semMul (oV (fCon (.int 2))) (oP 3))) (oV (fCon (.int 1))))) (aCons (oV (fCon (.int 2))) (aNil))))) (aNil)))) (aCons (oV (fOp2 semAdd (oP 3) (oV (fCon (.int 1))))) (aNil))))))) (sRet (fCon (.bool false))) (sNil)) (
  sSeq (sFor (fiSeq (fOp2 semAdd (oV (fN semLst (aCons (oV (fN semTup (aCons (oV (fVar 1)) (aCons (oV (fVar 2)) (aNil))))) (aCons (oV (fN semTup (aCons (oV (fVar 3)) (aCons (oV (fVar 4)) (aNil))))) (aCons (oV (fN semTup (aCons (oV (fOp2 semIx (oP 5) (oV (fCon (.int 0))))) (aCons (oV (fUn semNeg (fOp2 semIx (oP 5) (oV (fCon (.int 1)))))) (aNil))))) (aCons (oV (fN semTup (aCons (oV (fSh (fOp2 semMul (oV (fOp2 semIx (oP 5) (oV (fCon (.int 0))))) (oV (fCon (.int 2)))))) (aCons (oV (fSh (fOp2 semMul (oV (fOp2 semIx (oP 5) (oV (fCon (.int 1))))) (oV (fCon (.int 2)))))) (aNil))))) (aCons (oV (fN semTup (aCons (oV (fCon (.int 0))) (aCons (oV (fCon (.int 2))) (aNil))))) (aCons (oV (fN semTup (aCons (oV (fCon (.int 0))) (aCons (oV (fCon (.int 1))) (aNil))))) (aNil))))))))) (oV (fLc 9 [8] (fiA (onD rng1) (aCons (oV (fCon (.int 4))) (aNil))) (gNm 8) (ftYes) (fCall 2 [0] (m__law_bent 8) (aCons (oP 0) (aCons (oV (fVar 5)) (aNil)))))))) (gNm 7) (sIf (fNotT (tB1 (fCall 2 [] (m__law_same 8) (aCons (oV (fCall 1 [] m_is_ratio (aCons (oV (fVar 7)) (aNil)))) (aCons (oV (fCall 1 [] m__law_ratio_due (aCons (oV (fVar 7)) (aNil)))) (aNil)))))) (sRet (fCon (.bool false))) (sNil))) (
  sRet (fCon (.bool true))))))))))
def m__law_ratios_fine : SemF := runD 9 [0] b__law_ratios_fine
theorem cal__law_ratios_fine (L : Lw K mg c) {a cd : Addr} {fd : FuncData} (F : DefC K mg "_law_ratios_fine" s__law_ratios_fine a fd cd) (b : Binds K fd ["box"] []) (c__law_integer : C8.Cal P w K mg base 3 "_law_integer" (spD c 1 [0] m__law_integer) []) (c__law_lowest : C8.Cal P w K mg base 2 "_law_lowest" (spD c 2 [] m__law_lowest) []) (c__law_same : C8.Cal P w K mg base 9 "_law_same" (spD c 2 [] (m__law_same 8)) []) (c_ratio : C8.Cal P w K mg base 1 "ratio" (spD c 2 [] m_ratio) []) (c_is_ratio : C8.Cal P w K mg base 2 "is_ratio" (spD c 1 [] m_is_ratio) []) (c_plus : C8.Cal P w K mg base 2 "plus" (spD c 2 [] m_plus) []) (c_times : C8.Cal P w K mg base 2 "times" (spD c 2 [] m_times) []) (c_less : C8.Cal P w K mg base 1 "less" (spD c 2 [] m_less) []) (c__law_round : C8.Cal P w K mg base 1 "_law_round" (spD c 1 [] m__law_round) []) (c_rounded : C8.Cal P w K mg base 1 "rounded" (spD c 1 [] m_rounded) []) (c__law_bent : C8.Cal P w K mg base 11 "_law_bent" (spD c 2 [0] (m__law_bent 8)) []) (c__law_ratio_due : C8.Cal P w K mg base 2 "_law_ratio_due" (spD c 1 [] m__law_ratio_due) []) : C8.Cal P w K mg base 12 "_law_ratios_fine" (spD c 1 [0] m__law_ratios_fine) [] := by
  have hK := L.hK
  refine calDc F b sc__law_ratios_fine rfl (by decide) fun A outer s H E hr => ?_
  delta b__law_ratios_fine
  exact ds_cons (ds_asg (de_tup (da_cons (do_val (de_sh (de_call c__law_integer hr (by omega) (by rfl) (da_cons (do_pk (i := 0)) (da_nil))))) (da_cons (do_val (de_sh (de_call c__law_integer hr (by omega) (by rfl) (da_cons (do_pk (i := 0)) (da_nil))))) (da_cons (do_val (de_sh (de_call c__law_integer hr (by omega) (by rfl) (da_cons (do_pk (i := 0)) (da_nil))))) (da_cons (do_val (de_sh (de_call c__law_integer hr (by omega) (by rfl) (da_cons (do_pk (i := 0)) (da_nil))))) (da_nil)))))) (dg_tup hK rfl (dgs_cons (dg_name (i := 1) sc__law_ratios_fine.nd) (dgs_cons (dg_name (i := 2) sc__law_ratios_fine.nd) (dgs_cons (dg_name (i := 3) sc__law_ratios_fine.nd) (dgs_cons (dg_name (i := 4) sc__law_ratios_fine.nd) (dgs_nil))))))) (
    ds_cons (ds_par2 (i := 2) (j := 4) sc__law_ratios_fine.nd (da_cons (do_val (de_if (dt_cmp (o_ne (hu hr) hK) (do_pk (i := 2)) (do_val (de_int))) (de_var (i := 2)) (de_int))) (da_cons (do_val (de_if (dt_cmp (o_ne (hu hr) hK) (do_pk (i := 4)) (do_val (de_int))) (de_var (i := 4)) (de_neg (de_int)))) (da_nil)))) (
    ds_cons (ds_asg (de_tup (da_cons (do_val (de_sh (de_call c__law_lowest hr (by omega) (by rfl) (da_cons (do_val (de_var (i := 1))) (da_cons (do_val (de_var (i := 2))) (da_nil)))))) (da_cons (do_val (de_sh (de_call c__law_lowest hr (by omega) (by rfl) (da_cons (do_val (de_var (i := 3))) (da_cons (do_val (de_var (i := 4))) (da_nil)))))) (da_nil)))) (dg_tup hK rfl (dgs_cons (dg_name (i := 5) sc__law_ratios_fine.nd) (dgs_cons (dg_name (i := 6) sc__law_ratios_fine.nd) (dgs_nil))))) (
    ds_cons (ds_if (dt_w (dw_or (dt_not (dt_val (de_call c__law_same hr (by omega) (by rfl) (da_cons (do_val (de_call c_ratio hr (by omega) (by rfl) (da_cons (do_val (de_var (i := 1))) (da_cons (do_val (de_var (i := 2))) (da_nil))))) (da_cons (do_val (de_var (i := 5))) (da_nil)))))) (dw_or (dt_not (dt_val (de_call c__law_same hr (by omega) (by rfl) (da_cons (do_val (de_call c_is_ratio hr (by omega) (by rfl) (da_cons (do_val (de_var (i := 5))) (da_nil)))) (da_cons (do_val (de_bl)) (da_nil)))))) (dw_or1 (dt_not (dt_val (de_call c__law_same hr (by omega) (by rfl) (da_cons (do_val (de_call c_ratio hr (by omega) (by rfl) (da_cons (do_val (de_int)) (da_cons (do_val (de_var (i := 2))) (da_nil))))) (da_cons (do_val (de_tup (da_cons (do_val (de_int)) (da_cons (do_val (de_int)) (da_nil))))) (da_nil)))))))))) (ds_one (ds_ret (de_bl))) (ds_nil)) (
    ds_cons (ds_if (dt_w (dw_or (dt_not (dt_val (de_call c__law_same hr (by omega) (by rfl) (da_cons (do_val (de_call c_plus hr (by omega) (by rfl) (da_cons (do_val (de_var (i := 5))) (da_cons (do_val (de_var (i := 6))) (da_nil))))) (da_cons (do_val (de_call c__law_lowest hr (by omega) (by rfl) (da_cons (do_val (de_op (o_add hK) (do_val (de_op (o_mul) (do_pk (i := 1)) (do_pk (i := 4)))) (do_val (de_op (o_mul) (do_pk (i := 3)) (do_pk (i := 2)))))) (da_cons (do_val (de_op (o_mul) (do_pk (i := 2)) (do_pk (i := 4)))) (da_nil))))) (da_nil)))))) (dw_or1 (dt_not (dt_val (de_call c__law_same hr (by omega) (by rfl) (da_cons (do_val (de_call c_times hr (by omega) (by rfl) (da_cons (do_val (de_var (i := 5))) (da_cons (do_val (de_var (i := 6))) (da_nil))))) (da_cons (do_val (de_call c__law_lowest hr (by omega) (by rfl) (da_cons (do_val (de_op (o_mul) (do_pk (i := 1)) (do_pk (i := 3)))) (da_cons (do_val (de_op (o_mul) (do_pk (i := 2)) (do_pk (i := 4)))) (da_nil))))) (da_nil))))))))) (ds_one (ds_ret (de_bl))) (ds_nil)) (
    ds_cons (ds_if (dt_w (dw_or (dt_not (dt_val (de_call c__law_same hr (by omega) (by rfl) (da_cons (do_val (de_call c_less hr (by omega) (by rfl) (da_cons (do_val (de_var (i := 5))) (da_cons (do_val (de_var (i := 6))) (da_nil))))) (da_cons (do_val (de_cmp (o_lt (hu hr) hK) (do_val (de_op (o_mul) (do_val (de_ix hK (do_pk (i := 5)) (do_val (de_int)))) (do_val (de_ix hK (do_pk (i := 6)) (do_val (de_int)))))) (do_val (de_op (o_mul) (do_val (de_ix hK (do_pk (i := 6)) (do_val (de_int)))) (do_val (de_ix hK (do_pk (i := 5)) (do_val (de_int)))))))) (da_nil)))))) (dw_or1 (dt_not (dt_val (de_call c__law_same hr (by omega) (by rfl) (da_cons (do_val (de_call c_less hr (by omega) (by rfl) (da_cons (do_val (de_var (i := 5))) (da_cons (do_val (de_var (i := 5))) (da_nil))))) (da_cons (do_val (de_bl)) (da_nil))))))))) (ds_one (ds_ret (de_bl))) (ds_nil)) (
    ds_cons (ds_if (dt_w (dw_or (dt_not (dt_val (de_call c__law_same hr (by omega) (by rfl) (da_cons (do_val (de_call c_rounded hr (by omega) (by rfl) (da_cons (do_val (de_var (i := 5))) (da_nil)))) (da_cons (do_val (de_call c__law_round hr (by omega) (by rfl) (da_cons (do_val (de_var (i := 5))) (da_nil)))) (da_nil)))))) (dw_or1 (dt_not (dt_val (de_call c__law_same hr (by omega) (by rfl) (da_cons (do_val (de_call c_rounded hr (by omega) (by rfl) (da_cons (do_val (de_call c__law_lowest hr (by omega) (by rfl) (da_cons (do_val (de_op (o_add hK) (do_val (de_op (o_mul) (do_val (de_int)) (do_pk (i := 3)))) (do_val (de_int)))) (da_cons (do_val (de_int)) (da_nil))))) (da_nil)))) (da_cons (do_val (de_op (o_add hK) (do_pk (i := 3)) (do_val (de_int)))) (da_nil))))))))) (ds_one (ds_ret (de_bl))) (ds_nil)) (
    ds_cons (ds_for PassesOwn.never rfl (di_seq hK (de_op (o_add hK) (do_val (de_lst (da_cons (do_val (de_tup (da_cons (do_val (de_var (i := 1))) (da_cons (do_val (de_var (i := 2))) (da_nil))))) (da_cons (do_val (de_tup (da_cons (do_val (de_var (i := 3))) (da_cons (do_val (de_var (i := 4))) (da_nil))))) (da_cons (do_val (de_tup (da_cons (do_val (de_ix hK (do_pk (i := 5)) (do_val (de_int)))) (da_cons (do_val (de_neg (de_ix hK (do_pk (i := 5)) (do_val (de_int))))) (da_nil))))) (da_cons (do_val (de_tup (da_cons (do_val (de_sh (de_op (o_mul) (do_val (de_ix hK (do_pk (i := 5)) (do_val (de_int)))) (do_val (de_int))))) (da_cons (do_val (de_sh (de_op (o_mul) (do_val (de_ix hK (do_pk (i := 5)) (do_val (de_int)))) (do_val (de_int))))) (da_nil))))) (da_cons (do_val (de_tup (da_cons (do_val (de_int)) (da_cons (do_val (de_int)) (da_nil))))) (da_cons (do_val (de_tup (da_cons (do_val (de_int)) (da_cons (do_val (de_int)) (da_nil))))) (da_nil))))))))) (do_val (de_lc (n := 9) (own := [("k", 8)]) rfl sc__law_ratios_fine.nd (di_rng1 (by rfl) L.z_range (da_cons (do_val (de_int)) (da_nil))) (blkOk_by (N := ["box", "p", "q", "r", "s", "a", "b", "value", "k"]) (sc := C8.fnScope s__law_ratios_fine) (by decide +kernel)) (fun _ _ _ _ _ => dg_name (i := 8) sc__law_ratios_fine.nd) (fun _ _ _ _ _ => dts_nil) (fun _ _ _ _ _ => de_call c__law_bent hr (by omega) (by rfl) (da_cons (do_pk (i := 0)) (da_cons (do_val (de_var (i := 5))) (da_nil)))))))) (dg_name (i := 7) sc__law_ratios_fine.nd) (ds_one (ds_if (dt_not (dt_val (de_call c__law_same hr (by omega) (by rfl) (da_cons (do_val (de_call c_is_ratio hr (by omega) (by rfl) (da_cons (do_val (de_var (i := 7))) (da_nil)))) (da_cons (do_val (de_call c__law_ratio_due hr (by omega) (by rfl) (da_cons (do_val (de_var (i := 7))) (da_nil)))) (da_nil)))))) (ds_one (ds_ret (de_bl))) (ds_nil)))) (
    ds_one (ds_ret (de_bl))))))))))
/-! law -/
abbrev s_law : Stmt := topS 44
theorem sc_law : FnScope ["script", "box", "turn", "scale", "other", "twelve", "k", "worths", "step", "worth", "due"] ["script"] (C8.fnScope s_law) := ⟨rfl, rfl, rfl, by decide +kernel, rfl, by decide +kernel, by decide +kernel⟩
def b_law : FS :=
  sSeq (sFor (fiA (onD rng1) (aCons (oV (fCon (.int 3))) (aNil))) (gNm 2) (sIf (fNotT (tB1 (fCall 1 [0] m__law_ratios_fine (aCons (oP 1) (aNil))))) (sRet (fCon (.bool false))) (sNil))) (
  sSeq (sAsg (gNm 3) (fCall 1 [0] m__law_scale (aCons (oP 1) (aNil)))) (
  sSeq (sIf (fOrT (tB1 (fOp2 semNe (oV (fN semTup (aCons (oV (fCon k_MAX_STEPS)) (aCons (oV (fCon k_MAX_WORTH)) (aNil))))) (oV (fN semTup (aCons (oV (fCon (.int 12))) (aCons (oV (fSh (fOp2 semPow (oV (fCon (.int 10))) (oV (fCon (.int 9)))))) (aNil))))))) (fNotT (tB1 (fCall 2 [] (m__law_same 8) (aCons (oV (fCall 1 [] m_is_scale (aCons (oV (fVar 3)) (aNil)))) (aCons (oV (fCon (.bool true))) (aNil))))))) (sRet (fCon (.bool false))) (sNil)) (
  sSeq (sFor (fiA (onD rng1) (aCons (oV (fCon (.int 10))) (aNil))) (gNm 2) (sSeq (sAsg (gNm 4) (fCall 2 [0] (m__law_bent 8) (aCons (oP 1) (aCons (oV (fVar 3)) (aNil))))) (
  sIf (fNotT (tB1 (fCall 2 [] (m__law_same 8) (aCons (oV (fCall 1 [] m_is_scale (aCons (oV (fVar 4)) (aNil)))) (aCons (oV (fCall 1 [] m__law_scale_due (aCons (oV (fVar 4)) (aNil)))) (aNil)))))) (sRet (fCon (.bool false))) (sNil)))) (
  sSeq (sAsg (gNm 5) (fN semTupOf (aCons (oV (fLc 11 [6] (fiA (onD rng1) (aCons (oV (fCon (.int 13))) (aNil))) (gNm 6) (ftYes) (fN semTup (aCons (oV (fSh (fOp2 semMul (oP 6) (oV (fCon (.int 5)))))) (aCons (oV (fN semTup (aCons (oV (fCon (.int 1))) (aCons (oV (fSh (fOp2 semAdd (oP 6) (oV (fCon (.int 1)))))) (aNil))))) (aNil)))))) (aNil)))) (
  sSeq (sIf (fOrT (fNotT (tB1 (fCall 2 [] (m__law_same 8) (aCons (oV (fCall 1 [] m_is_scale (aCons (oV (fVar 5)) (aNil)))) (aCons (oV (fCon (.bool false))) (aNil)))))) (fNotT (tB1 (fCall 2 [] (m__law_same 8) (aCons (oV (fCall 1 [] m_is_scale (aCons (oV (fSl (oP 5) (fPN) (fPS (fCon (.int 12))))) (aNil)))) (aCons (oV (fCon (.bool true))) (aNil))))))) (sRet (fCon (.bool false))) (sNil)) (
  sSeq (sAsg (gNm 7) (fOp2 semAdd (oV (fOp2 semAdd (oV (fN semLst (aCons (oV (fCon (.int 0))) (aCons (oV (fSh (fOp2 semPow (oV (fCon (.int 10))) (oV (fCon (.int 9)))))) (aNil))))) (oV (fLc 11 [8] (fiSeq (fVar 3)) (gNm 8) (ftYes) (fOp2 semIx (oP 8) (oV (fCon (.int 0)))))))) (oV (fN semLst (aCons (oV (fSh (fCall 2 [0] m__law_draw (aCons (oP 1) (aCons (oV (fOp2 semAdd (oV (fOp2 semPow (oV (fCon (.int 10))) (oV (fCon (.int 9))))) (oV (fCon (.int 1))))) (aNil)))))) (aCons (oV (fSh (fCall 2 [0] m__law_draw (aCons (oP 1) (aCons (oV (fCon (.int 400))) (aNil)))))) (aNil))))))) (
  sSeq (sFor (fiSeq (fVar 7)) (gNm 9) (sSeq (sAsg (gNm 10) (fCall 2 [] m__law_fee (aCons (oV (fVar 3)) (aCons (oV (fVar 9)) (aNil))))) (
  sSeq (sIf (fOrT (fNotT (tB1 (fCall 2 [] (m__law_same 8) (aCons (oV (fCall 2 [] m_fee (aCons (oV (fVar 3)) (aCons (oV (fVar 9)) (aNil))))) (aCons (oV (fVar 10)) (aNil)))))) (fNotT (tB1 (fCall 2 [] (m__law_same 8) (aCons (oV (fCall 2 [] m_fee_cents (aCons (oV (fVar 3)) (aCons (oV (fVar 9)) (aNil))))) (aCons (oV (fCall 1 [] m__law_round (aCons (oV (fVar 10)) (aNil)))) (aNil))))))) (sRet (fCon (.bool false))) (sNil)) (
  sIf (fOrT (fNotT (tB1 (fCall 2 [] m__law_worth_fine (aCons (oV (fVar 3)) (aCons (oV (fCall 1 [] m__law_round (aCons (oV (fVar 10)) (aNil)))) (aNil)))))) (fNotT (tB1 (fCall 2 [] m__law_worth_fine (aCons (oV (fVar 3)) (aCons (oV (fOp2 semAdd (oV (fCall 1 [] m__law_round (aCons (oV (fVar 10)) (aNil)))) (oV (fCon (.int 1))))) (aNil))))))) (sRet (fCon (.bool false))) (sNil))))) (
  sRet (fCall 2 [] m__law_worth_fine (aCons (oV (fVar 3)) (aCons (oV (fCall 2 [0] m__law_draw (aCons (oP 1) (aCons (oV (fCon (.int 60))) (aNil))))) (aNil))))))))))))
theorem fn_law (L : Lw K mg c) {a cd : Addr} {fd : FuncData} (F : DefC K mg "law" s_law a fd cd)  (c__law_box : C8.Cal P w K mg base 1 "_law_box" (spBox c) []) (c__law_ratios_fine : C8.Cal P w K mg base 12 "_law_ratios_fine" (spD c 1 [0] m__law_ratios_fine) []) (c__law_scale : C8.Cal P w K mg base 3 "_law_scale" (spD c 1 [0] m__law_scale) []) (c__law_same : C8.Cal P w K mg base 9 "_law_same" (spD c 2 [] (m__law_same 8)) []) (c_is_scale : C8.Cal P w K mg base 5 "is_scale" (spD c 1 [] m_is_scale) []) (c__law_bent : C8.Cal P w K mg base 11 "_law_bent" (spD c 2 [0] (m__law_bent 8)) []) (c__law_scale_due : C8.Cal P w K mg base 3 "_law_scale_due" (spD c 1 [] m__law_scale_due) []) (c__law_draw : C8.Cal P w K mg base 2 "_law_draw" (spD c 2 [0] m__law_draw) []) (c__law_fee : C8.Cal P w K mg base 3 "_law_fee" (spD c 2 [] m__law_fee) []) (c_fee : C8.Cal P w K mg base 3 "fee" (spD c 2 [] m_fee) []) (c__law_round : C8.Cal P w K mg base 1 "_law_round" (spD c 1 [] m__law_round) []) (c_fee_cents : C8.Cal P w K mg base 4 "fee_cents" (spD c 2 [] m_fee_cents) []) (c__law_worth_fine : C8.Cal P w K mg base 7 "_law_worth_fine" (spD c 2 [] m__law_worth_fine) []) (hf : ∀ ns : List Int, ns.length ≤ 63 → runLaw 9 b_law ns = .ok (.sh, .bool true)) : FnOk P w K mg base C8.CX0 13 a fd ["script"] (spLaw c) := by
  have hK := L.hK
  refine fnAny F sc_law (fun vs H Q E h => ?_) fun A outer s H E hr => ⟨tLawB c b_law, pss_cons (ps_set (i := 1) sc_law.nd rfl (.inl rfl) (by exact C8.pe_c c__law_box hr (by omega) (by rfl) (by exact pa_cons (pv 0) pa_nil))) ?_, fun vs Q h => law_ok (m := 9) rfl hf h⟩
  · obtain ⟨a, ns, rfl, _⟩ := h
    rfl
  · delta b_law
    exact ds_cons (ds_for PassesOwn.never rfl (di_rng1 (by rfl) L.z_range (da_cons (do_val (de_int)) (da_nil))) (dg_name (i := 2) sc_law.nd) (ds_one (ds_if (dt_not (dt_val (de_call c__law_ratios_fine hr (by omega) (by rfl) (da_cons (do_pk (i := 1)) (da_nil))))) (ds_one (ds_ret (de_bl))) (ds_nil)))) (
    ds_cons (ds_set (i := 3) sc_law.nd (de_call c__law_scale hr (by omega) (by rfl) (da_cons (do_pk (i := 1)) (da_nil)))) (
    ds_cons (ds_if (dt_w (dw_or (dt_cmp (o_ne (hu hr) hK) (do_val (de_tup (da_cons (do_val (de_glob (d := k_MAX_STEPS) (by rfl) L.g_MAX_STEPS)) (da_cons (do_val (de_glob (d := k_MAX_WORTH) (by rfl) L.g_MAX_WORTH)) (da_nil))))) (do_val (de_tup (da_cons (do_val (de_int)) (da_cons (do_val (de_sh (de_op (o_pow) (do_val (de_int)) (do_val (de_int))))) (da_nil)))))) (dw_or1 (dt_not (dt_val (de_call c__law_same hr (by omega) (by rfl) (da_cons (do_val (de_call c_is_scale hr (by omega) (by rfl) (da_cons (do_val (de_var (i := 3))) (da_nil)))) (da_cons (do_val (de_bl)) (da_nil))))))))) (ds_one (ds_ret (de_bl))) (ds_nil)) (
    ds_cons (ds_for PassesOwn.never rfl (di_rng1 (by rfl) L.z_range (da_cons (do_val (de_int)) (da_nil))) (dg_name (i := 2) sc_law.nd) (ds_cons (ds_set (i := 4) sc_law.nd (de_call c__law_bent hr (by omega) (by rfl) (da_cons (do_pk (i := 1)) (da_cons (do_val (de_var (i := 3))) (da_nil))))) (
    ds_one (ds_if (dt_not (dt_val (de_call c__law_same hr (by omega) (by rfl) (da_cons (do_val (de_call c_is_scale hr (by omega) (by rfl) (da_cons (do_val (de_var (i := 4))) (da_nil)))) (da_cons (do_val (de_call c__law_scale_due hr (by omega) (by rfl) (da_cons (do_val (de_var (i := 4))) (da_nil)))) (da_nil)))))) (ds_one (ds_ret (de_bl))) (ds_nil))))) (
    ds_cons (ds_set (i := 5) sc_law.nd (de_callTy (c_tupOf hK) (by rfl) L.z_tuple bt_tuple (da_cons (do_val (de_lc (n := 11) (own := [("k", 6)]) rfl sc_law.nd (di_rng1 (by rfl) L.z_range (da_cons (do_val (de_int)) (da_nil))) (blkOk_by (N := ["script", "box", "turn", "scale", "other", "twelve", "k", "worths", "step", "worth", "due"]) (sc := C8.fnScope s_law) (by decide +kernel)) (fun _ _ _ _ _ => dg_name (i := 6) sc_law.nd) (fun _ _ _ _ _ => dts_nil) (fun _ _ _ _ _ => de_tup (da_cons (do_val (de_sh (de_op (o_mul) (do_pk (i := 6)) (do_val (de_int))))) (da_cons (do_val (de_tup (da_cons (do_val (de_int)) (da_cons (do_val (de_sh (de_op (o_add hK) (do_pk (i := 6)) (do_val (de_int))))) (da_nil))))) (da_nil)))))) (da_nil)))) (
    ds_cons (ds_if (dt_w (dw_or (dt_not (dt_val (de_call c__law_same hr (by omega) (by rfl) (da_cons (do_val (de_call c_is_scale hr (by omega) (by rfl) (da_cons (do_val (de_var (i := 5))) (da_nil)))) (da_cons (do_val (de_bl)) (da_nil)))))) (dw_or1 (dt_not (dt_val (de_call c__law_same hr (by omega) (by rfl) (da_cons (do_val (de_call c_is_scale hr (by omega) (by rfl) (da_cons (do_val (de_slice hK (do_pk (i := 5)) (dp_none) (dp_some (de_int)))) (da_nil)))) (da_cons (do_val (de_bl)) (da_nil))))))))) (ds_one (ds_ret (de_bl))) (ds_nil)) (
    ds_cons (ds_set (i := 7) sc_law.nd (de_op (o_add hK) (do_val (de_op (o_add hK) (do_val (de_lst (da_cons (do_val (de_int)) (da_cons (do_val (de_sh (de_op (o_pow) (do_val (de_int)) (do_val (de_int))))) (da_nil))))) (do_val (de_lc (n := 11) (own := [("step", 8)]) rfl sc_law.nd (di_seq hK (de_var (i := 3))) (blkOk_by (N := ["script", "box", "turn", "scale", "other", "twelve", "k", "worths", "step", "worth", "due"]) (sc := C8.fnScope s_law) (by decide +kernel)) (fun _ _ _ _ _ => dg_name (i := 8) sc_law.nd) (fun _ _ _ _ _ => dts_nil) (fun _ _ _ _ _ => de_ix hK (do_pk (i := 8)) (do_val (de_int))))))) (do_val (de_lst (da_cons (do_val (de_sh (de_call c__law_draw hr (by omega) (by rfl) (da_cons (do_pk (i := 1)) (da_cons (do_val (de_op (o_add hK) (do_val (de_op (o_pow) (do_val (de_int)) (do_val (de_int)))) (do_val (de_int)))) (da_nil)))))) (da_cons (do_val (de_sh (de_call c__law_draw hr (by omega) (by rfl) (da_cons (do_pk (i := 1)) (da_cons (do_val (de_int)) (da_nil)))))) (da_nil))))))) (
    ds_cons (ds_for PassesOwn.never rfl (di_seq hK (de_var (i := 7))) (dg_name (i := 9) sc_law.nd) (ds_cons (ds_set (i := 10) sc_law.nd (de_call c__law_fee hr (by omega) (by rfl) (da_cons (do_val (de_var (i := 3))) (da_cons (do_val (de_var (i := 9))) (da_nil))))) (
    ds_cons (ds_if (dt_w (dw_or (dt_not (dt_val (de_call c__law_same hr (by omega) (by rfl) (da_cons (do_val (de_call c_fee hr (by omega) (by rfl) (da_cons (do_val (de_var (i := 3))) (da_cons (do_val (de_var (i := 9))) (da_nil))))) (da_cons (do_val (de_var (i := 10))) (da_nil)))))) (dw_or1 (dt_not (dt_val (de_call c__law_same hr (by omega) (by rfl) (da_cons (do_val (de_call c_fee_cents hr (by omega) (by rfl) (da_cons (do_val (de_var (i := 3))) (da_cons (do_val (de_var (i := 9))) (da_nil))))) (da_cons (do_val (de_call c__law_round hr (by omega) (by rfl) (da_cons (do_val (de_var (i := 10))) (da_nil)))) (da_nil))))))))) (ds_one (ds_ret (de_bl))) (ds_nil)) (
    ds_one (ds_if (dt_w (dw_or (dt_not (dt_val (de_call c__law_worth_fine hr (by omega) (by rfl) (da_cons (do_val (de_var (i := 3))) (da_cons (do_val (de_call c__law_round hr (by omega) (by rfl) (da_cons (do_val (de_var (i := 10))) (da_nil)))) (da_nil)))))) (dw_or1 (dt_not (dt_val (de_call c__law_worth_fine hr (by omega) (by rfl) (da_cons (do_val (de_var (i := 3))) (da_cons (do_val (de_op (o_add hK) (do_val (de_call c__law_round hr (by omega) (by rfl) (da_cons (do_val (de_var (i := 10))) (da_nil)))) (do_val (de_int)))) (da_nil))))))))) (ds_one (ds_ret (de_bl))) (ds_nil)))))) (
    ds_one (ds_ret (de_call c__law_worth_fine hr (by omega) (by rfl) (da_cons (do_val (de_var (i := 3))) (da_cons (do_val (de_call c__law_draw hr (by omega) (by rfl) (da_cons (do_pk (i := 1)) (da_cons (do_val (de_int)) (da_nil))))) (da_nil)))))))))))))
end Yk65
set_option maxRecDepth 100000
set_option maxHeartbeats 4000000
namespace Yk65
open PySem PySem.Spec PyProof.Rows L2 O
theorem all_mk {l : PySem.W.OpenLaw} {w : World} {K : PySem.W.Frag} {h : Heap} {mg : Str → Option Value} {fa : Addr} {q : Program} (X : K.In h) (G : h.Ns mainGlobals mg) (hfa : mg "law" = some (.ref fa)) (TT : TabsOf q K mg h)
    {f_is_number cd_is_number : Addr} {oc_is_number kV_is_number dc_is_number pm_is_number ct_is_number : Value} {od_is_number an_is_number : Option Addr} {sl_is_number : Array (Option Value)}
    {f_is_ratio cd_is_ratio : Addr} {oc_is_ratio kV_is_ratio dc_is_ratio pm_is_ratio ct_is_ratio : Value} {od_is_ratio an_is_ratio : Option Addr} {sl_is_ratio : Array (Option Value)}
    {f_ratio cd_ratio : Addr} {oc_ratio kV_ratio dc_ratio pm_ratio ct_ratio : Value} {od_ratio an_ratio : Option Addr} {sl_ratio : Array (Option Value)}
    {f_plus cd_plus : Addr} {oc_plus kV_plus dc_plus pm_plus ct_plus : Value} {od_plus an_plus : Option Addr} {sl_plus : Array (Option Value)}
    {f_times cd_times : Addr} {oc_times kV_times dc_times pm_times ct_times : Value} {od_times an_times : Option Addr} {sl_times : Array (Option Value)}
    {f_less cd_less : Addr} {oc_less kV_less dc_less pm_less ct_less : Value} {od_less an_less : Option Addr} {sl_less : Array (Option Value)}
    {f_rounded cd_rounded : Addr} {oc_rounded kV_rounded dc_rounded pm_rounded ct_rounded : Value} {od_rounded an_rounded : Option Addr} {sl_rounded : Array (Option Value)}
    {f_is_step cd_is_step : Addr} {oc_is_step kV_is_step dc_is_step pm_is_step ct_is_step : Value} {od_is_step an_is_step : Option Addr} {sl_is_step : Array (Option Value)}
    {f_is_scale cd_is_scale : Addr} {oc_is_scale kV_is_scale dc_is_scale pm_is_scale ct_is_scale : Value} {od_is_scale an_is_scale : Option Addr} {sl_is_scale : Array (Option Value)}
    {f_fee cd_fee : Addr} {oc_fee kV_fee dc_fee pm_fee ct_fee : Value} {od_fee an_fee : Option Addr} {sl_fee : Array (Option Value)}
    {f_fee_cents cd_fee_cents : Addr} {oc_fee_cents kV_fee_cents dc_fee_cents pm_fee_cents ct_fee_cents : Value} {od_fee_cents an_fee_cents : Option Addr} {sl_fee_cents : Array (Option Value)}
    {f_worth_for cd_worth_for : Addr} {oc_worth_for kV_worth_for dc_worth_for pm_worth_for ct_worth_for : Value} {od_worth_for an_worth_for : Option Addr} {sl_worth_for : Array (Option Value)}
    {f__law_box cd__law_box : Addr} {oc__law_box kV__law_box dc__law_box pm__law_box ct__law_box : Value} {od__law_box an__law_box : Option Addr} {sl__law_box : Array (Option Value)}
    {f__law_load cd__law_load : Addr} {oc__law_load kV__law_load dc__law_load pm__law_load ct__law_load : Value} {od__law_load an__law_load : Option Addr} {sl__law_load : Array (Option Value)}
    {f__law_draw cd__law_draw : Addr} {oc__law_draw kV__law_draw dc__law_draw pm__law_draw ct__law_draw : Value} {od__law_draw an__law_draw : Option Addr} {sl__law_draw : Array (Option Value)}
    {f__law_same cd__law_same : Addr} {oc__law_same kV__law_same dc__law_same pm__law_same ct__law_same : Value} {od__law_same an__law_same : Option Addr} {sl__law_same : Array (Option Value)}
    {f__law_bent cd__law_bent : Addr} {oc__law_bent kV__law_bent dc__law_bent pm__law_bent ct__law_bent : Value} {od__law_bent an__law_bent : Option Addr} {sl__law_bent : Array (Option Value)}
    {f__law_common cd__law_common : Addr} {oc__law_common kV__law_common dc__law_common pm__law_common ct__law_common : Value} {od__law_common an__law_common : Option Addr} {sl__law_common : Array (Option Value)}
    {f__law_lowest cd__law_lowest : Addr} {oc__law_lowest kV__law_lowest dc__law_lowest pm__law_lowest ct__law_lowest : Value} {od__law_lowest an__law_lowest : Option Addr} {sl__law_lowest : Array (Option Value)}
    {f__law_ratio_due cd__law_ratio_due : Addr} {oc__law_ratio_due kV__law_ratio_due dc__law_ratio_due pm__law_ratio_due ct__law_ratio_due : Value} {od__law_ratio_due an__law_ratio_due : Option Addr} {sl__law_ratio_due : Array (Option Value)}
    {f__law_integer cd__law_integer : Addr} {oc__law_integer kV__law_integer dc__law_integer pm__law_integer ct__law_integer : Value} {od__law_integer an__law_integer : Option Addr} {sl__law_integer : Array (Option Value)}
    {f__law_scale_due cd__law_scale_due : Addr} {oc__law_scale_due kV__law_scale_due dc__law_scale_due pm__law_scale_due ct__law_scale_due : Value} {od__law_scale_due an__law_scale_due : Option Addr} {sl__law_scale_due : Array (Option Value)}
    {f__law_scale cd__law_scale : Addr} {oc__law_scale kV__law_scale dc__law_scale pm__law_scale ct__law_scale : Value} {od__law_scale an__law_scale : Option Addr} {sl__law_scale : Array (Option Value)}
    {f__law_fee cd__law_fee : Addr} {oc__law_fee kV__law_fee dc__law_fee pm__law_fee ct__law_fee : Value} {od__law_fee an__law_fee : Option Addr} {sl__law_fee : Array (Option Value)}
    {f__law_round cd__law_round : Addr} {oc__law_round kV__law_round dc__law_round pm__law_round ct__law_round : Value} {od__law_round an__law_round : Option Addr} {sl__law_round : Array (Option Value)}
    {f__law_refused cd__law_refused : Addr} {oc__law_refused kV__law_refused dc__law_refused pm__law_refused ct__law_refused : Value} {od__law_refused an__law_refused : Option Addr} {sl__law_refused : Array (Option Value)}
    {f__law_worth_fine cd__law_worth_fine : Addr} {oc__law_worth_fine kV__law_worth_fine dc__law_worth_fine pm__law_worth_fine ct__law_worth_fine : Value} {od__law_worth_fine an__law_worth_fine : Option Addr} {sl__law_worth_fine : Array (Option Value)}
    {f__law_ratios_fine cd__law_ratios_fine : Addr} {oc__law_ratios_fine kV__law_ratios_fine dc__law_ratios_fine pm__law_ratios_fine ct__law_ratios_fine : Value} {od__law_ratios_fine an__law_ratios_fine : Option Addr} {sl__law_ratios_fine : Array (Option Value)}
    {f_law cd_law : Addr} {oc_law kV_law dc_law pm_law ct_law : Value} {od_law an_law : Option Addr} {sl_law : Array (Option Value)}
    {T_is_ratio : Addr} {e_is_ratio : Value} {dd_is_ratio : Option Addr} {vs_is_ratio : Array Value} {sx_is_ratio : Array (Option Value)}
    {T_is_scale : Addr} {e_is_scale : Value} {dd_is_scale : Option Addr} {vs_is_scale : Array Value} {sx_is_scale : Array (Option Value)}
    {v_MAX_STEPS : Value}
    {v_MAX_WORTH : Value}
    {v_NOTHING : Value}
    {v_ONE : Value}
    {C C1 C2 C3 C4 : Addr}
    (a_is_number : PySem.W.nsIn K mainGlobals "is_number" = some (some (.ref f_is_number))) (l_is_number : K.lookup f_is_number = some ⟨oc_is_number, od_is_number, .func (PySem.W.fnOf "is_number" "is_number" (C8.fnArgs s_is_number) (C8.fnBody s_is_number) (C8.fnScope s_is_number) .none kV_is_number dc_is_number pm_is_number an_is_number (.ref cd_is_number) ct_is_number), sl_is_number⟩) (c_is_number : PySem.W.codeIn K (.ref cd_is_number) "is_number" = true) (k_is_number : PySem.W.keepIn K (.ref f_is_number) = true)
    (a_is_ratio : PySem.W.nsIn K mainGlobals "is_ratio" = some (some (.ref f_is_ratio))) (l_is_ratio : K.lookup f_is_ratio = some ⟨oc_is_ratio, od_is_ratio, .func (PySem.W.fnOf "is_ratio" "is_ratio" (C8.fnArgs s_is_ratio) (C8.fnBody s_is_ratio) (C8.fnScope s_is_ratio) .none kV_is_ratio dc_is_ratio pm_is_ratio an_is_ratio (.ref cd_is_ratio) ct_is_ratio), sl_is_ratio⟩) (c_is_ratio : PySem.W.codeIn K (.ref cd_is_ratio) "is_ratio" = true) (k_is_ratio : PySem.W.keepIn K (.ref f_is_ratio) = true)
    (a_ratio : PySem.W.nsIn K mainGlobals "ratio" = some (some (.ref f_ratio))) (l_ratio : K.lookup f_ratio = some ⟨oc_ratio, od_ratio, .func (PySem.W.fnOf "ratio" "ratio" (C8.fnArgs s_ratio) (C8.fnBody s_ratio) (C8.fnScope s_ratio) .none kV_ratio dc_ratio pm_ratio an_ratio (.ref cd_ratio) ct_ratio), sl_ratio⟩) (c_ratio : PySem.W.codeIn K (.ref cd_ratio) "ratio" = true) (k_ratio : PySem.W.keepIn K (.ref f_ratio) = true)
    (a_plus : PySem.W.nsIn K mainGlobals "plus" = some (some (.ref f_plus))) (l_plus : K.lookup f_plus = some ⟨oc_plus, od_plus, .func (PySem.W.fnOf "plus" "plus" (C8.fnArgs s_plus) (C8.fnBody s_plus) (C8.fnScope s_plus) .none kV_plus dc_plus pm_plus an_plus (.ref cd_plus) ct_plus), sl_plus⟩) (c_plus : PySem.W.codeIn K (.ref cd_plus) "plus" = true) (k_plus : PySem.W.keepIn K (.ref f_plus) = true)
    (a_times : PySem.W.nsIn K mainGlobals "times" = some (some (.ref f_times))) (l_times : K.lookup f_times = some ⟨oc_times, od_times, .func (PySem.W.fnOf "times" "times" (C8.fnArgs s_times) (C8.fnBody s_times) (C8.fnScope s_times) .none kV_times dc_times pm_times an_times (.ref cd_times) ct_times), sl_times⟩) (c_times : PySem.W.codeIn K (.ref cd_times) "times" = true) (k_times : PySem.W.keepIn K (.ref f_times) = true)
    (a_less : PySem.W.nsIn K mainGlobals "less" = some (some (.ref f_less))) (l_less : K.lookup f_less = some ⟨oc_less, od_less, .func (PySem.W.fnOf "less" "less" (C8.fnArgs s_less) (C8.fnBody s_less) (C8.fnScope s_less) .none kV_less dc_less pm_less an_less (.ref cd_less) ct_less), sl_less⟩) (c_less : PySem.W.codeIn K (.ref cd_less) "less" = true) (k_less : PySem.W.keepIn K (.ref f_less) = true)
    (a_rounded : PySem.W.nsIn K mainGlobals "rounded" = some (some (.ref f_rounded))) (l_rounded : K.lookup f_rounded = some ⟨oc_rounded, od_rounded, .func (PySem.W.fnOf "rounded" "rounded" (C8.fnArgs s_rounded) (C8.fnBody s_rounded) (C8.fnScope s_rounded) .none kV_rounded dc_rounded pm_rounded an_rounded (.ref cd_rounded) ct_rounded), sl_rounded⟩) (c_rounded : PySem.W.codeIn K (.ref cd_rounded) "rounded" = true) (k_rounded : PySem.W.keepIn K (.ref f_rounded) = true)
    (a_is_step : PySem.W.nsIn K mainGlobals "is_step" = some (some (.ref f_is_step))) (l_is_step : K.lookup f_is_step = some ⟨oc_is_step, od_is_step, .func (PySem.W.fnOf "is_step" "is_step" (C8.fnArgs s_is_step) (C8.fnBody s_is_step) (C8.fnScope s_is_step) .none kV_is_step dc_is_step pm_is_step an_is_step (.ref cd_is_step) ct_is_step), sl_is_step⟩) (c_is_step : PySem.W.codeIn K (.ref cd_is_step) "is_step" = true) (k_is_step : PySem.W.keepIn K (.ref f_is_step) = true)
    (a_is_scale : PySem.W.nsIn K mainGlobals "is_scale" = some (some (.ref f_is_scale))) (l_is_scale : K.lookup f_is_scale = some ⟨oc_is_scale, od_is_scale, .func (PySem.W.fnOf "is_scale" "is_scale" (C8.fnArgs s_is_scale) (C8.fnBody s_is_scale) (C8.fnScope s_is_scale) .none kV_is_scale dc_is_scale pm_is_scale an_is_scale (.ref cd_is_scale) ct_is_scale), sl_is_scale⟩) (c_is_scale : PySem.W.codeIn K (.ref cd_is_scale) "is_scale" = true) (k_is_scale : PySem.W.keepIn K (.ref f_is_scale) = true)
    (a_fee : PySem.W.nsIn K mainGlobals "fee" = some (some (.ref f_fee))) (l_fee : K.lookup f_fee = some ⟨oc_fee, od_fee, .func (PySem.W.fnOf "fee" "fee" (C8.fnArgs s_fee) (C8.fnBody s_fee) (C8.fnScope s_fee) .none kV_fee dc_fee pm_fee an_fee (.ref cd_fee) ct_fee), sl_fee⟩) (c_fee : PySem.W.codeIn K (.ref cd_fee) "fee" = true) (k_fee : PySem.W.keepIn K (.ref f_fee) = true)
    (a_fee_cents : PySem.W.nsIn K mainGlobals "fee_cents" = some (some (.ref f_fee_cents))) (l_fee_cents : K.lookup f_fee_cents = some ⟨oc_fee_cents, od_fee_cents, .func (PySem.W.fnOf "fee_cents" "fee_cents" (C8.fnArgs s_fee_cents) (C8.fnBody s_fee_cents) (C8.fnScope s_fee_cents) .none kV_fee_cents dc_fee_cents pm_fee_cents an_fee_cents (.ref cd_fee_cents) ct_fee_cents), sl_fee_cents⟩) (c_fee_cents : PySem.W.codeIn K (.ref cd_fee_cents) "fee_cents" = true) (k_fee_cents : PySem.W.keepIn K (.ref f_fee_cents) = true)
    (a_worth_for : PySem.W.nsIn K mainGlobals "worth_for" = some (some (.ref f_worth_for))) (l_worth_for : K.lookup f_worth_for = some ⟨oc_worth_for, od_worth_for, .func (PySem.W.fnOf "worth_for" "worth_for" (C8.fnArgs s_worth_for) (C8.fnBody s_worth_for) (C8.fnScope s_worth_for) .none kV_worth_for dc_worth_for pm_worth_for an_worth_for (.ref cd_worth_for) ct_worth_for), sl_worth_for⟩) (c_worth_for : PySem.W.codeIn K (.ref cd_worth_for) "worth_for" = true) (k_worth_for : PySem.W.keepIn K (.ref f_worth_for) = true)
    (a__law_box : PySem.W.nsIn K mainGlobals "_law_box" = some (some (.ref f__law_box))) (l__law_box : K.lookup f__law_box = some ⟨oc__law_box, od__law_box, .func (PySem.W.fnOf "_law_box" "_law_box" (C8.fnArgs s__law_box) (C8.fnBody s__law_box) (C8.fnScope s__law_box) .none kV__law_box dc__law_box pm__law_box an__law_box (.ref cd__law_box) ct__law_box), sl__law_box⟩) (c__law_box : PySem.W.codeIn K (.ref cd__law_box) "_law_box" = true) (k__law_box : PySem.W.keepIn K (.ref f__law_box) = true)
    (a__law_load : PySem.W.nsIn K mainGlobals "_law_load" = some (some (.ref f__law_load))) (l__law_load : K.lookup f__law_load = some ⟨oc__law_load, od__law_load, .func (PySem.W.fnOf "_law_load" "_law_load" (C8.fnArgs s__law_load) (C8.fnBody s__law_load) (C8.fnScope s__law_load) .none kV__law_load dc__law_load pm__law_load an__law_load (.ref cd__law_load) ct__law_load), sl__law_load⟩) (c__law_load : PySem.W.codeIn K (.ref cd__law_load) "_law_load" = true) (k__law_load : PySem.W.keepIn K (.ref f__law_load) = true)
    (a__law_draw : PySem.W.nsIn K mainGlobals "_law_draw" = some (some (.ref f__law_draw))) (l__law_draw : K.lookup f__law_draw = some ⟨oc__law_draw, od__law_draw, .func (PySem.W.fnOf "_law_draw" "_law_draw" (C8.fnArgs s__law_draw) (C8.fnBody s__law_draw) (C8.fnScope s__law_draw) .none kV__law_draw dc__law_draw pm__law_draw an__law_draw (.ref cd__law_draw) ct__law_draw), sl__law_draw⟩) (c__law_draw : PySem.W.codeIn K (.ref cd__law_draw) "_law_draw" = true) (k__law_draw : PySem.W.keepIn K (.ref f__law_draw) = true)
    (a__law_same : PySem.W.nsIn K mainGlobals "_law_same" = some (some (.ref f__law_same))) (l__law_same : K.lookup f__law_same = some ⟨oc__law_same, od__law_same, .func (PySem.W.fnOf "_law_same" "_law_same" (C8.fnArgs s__law_same) (C8.fnBody s__law_same) (C8.fnScope s__law_same) .none kV__law_same dc__law_same pm__law_same an__law_same (.ref cd__law_same) ct__law_same), sl__law_same⟩) (c__law_same : PySem.W.codeIn K (.ref cd__law_same) "_law_same" = true) (k__law_same : PySem.W.keepIn K (.ref f__law_same) = true)
    (a__law_bent : PySem.W.nsIn K mainGlobals "_law_bent" = some (some (.ref f__law_bent))) (l__law_bent : K.lookup f__law_bent = some ⟨oc__law_bent, od__law_bent, .func (PySem.W.fnOf "_law_bent" "_law_bent" (C8.fnArgs s__law_bent) (C8.fnBody s__law_bent) (C8.fnScope s__law_bent) .none kV__law_bent dc__law_bent pm__law_bent an__law_bent (.ref cd__law_bent) ct__law_bent), sl__law_bent⟩) (c__law_bent : PySem.W.codeIn K (.ref cd__law_bent) "_law_bent" = true) (k__law_bent : PySem.W.keepIn K (.ref f__law_bent) = true)
    (a__law_common : PySem.W.nsIn K mainGlobals "_law_common" = some (some (.ref f__law_common))) (l__law_common : K.lookup f__law_common = some ⟨oc__law_common, od__law_common, .func (PySem.W.fnOf "_law_common" "_law_common" (C8.fnArgs s__law_common) (C8.fnBody s__law_common) (C8.fnScope s__law_common) .none kV__law_common dc__law_common pm__law_common an__law_common (.ref cd__law_common) ct__law_common), sl__law_common⟩) (c__law_common : PySem.W.codeIn K (.ref cd__law_common) "_law_common" = true) (k__law_common : PySem.W.keepIn K (.ref f__law_common) = true)
    (a__law_lowest : PySem.W.nsIn K mainGlobals "_law_lowest" = some (some (.ref f__law_lowest))) (l__law_lowest : K.lookup f__law_lowest = some ⟨oc__law_lowest, od__law_lowest, .func (PySem.W.fnOf "_law_lowest" "_law_lowest" (C8.fnArgs s__law_lowest) (C8.fnBody s__law_lowest) (C8.fnScope s__law_lowest) .none kV__law_lowest dc__law_lowest pm__law_lowest an__law_lowest (.ref cd__law_lowest) ct__law_lowest), sl__law_lowest⟩) (c__law_lowest : PySem.W.codeIn K (.ref cd__law_lowest) "_law_lowest" = true) (k__law_lowest : PySem.W.keepIn K (.ref f__law_lowest) = true)
    (a__law_ratio_due : PySem.W.nsIn K mainGlobals "_law_ratio_due" = some (some (.ref f__law_ratio_due))) (l__law_ratio_due : K.lookup f__law_ratio_due = some ⟨oc__law_ratio_due, od__law_ratio_due, .func (PySem.W.fnOf "_law_ratio_due" "_law_ratio_due" (C8.fnArgs s__law_ratio_due) (C8.fnBody s__law_ratio_due) (C8.fnScope s__law_ratio_due) .none kV__law_ratio_due dc__law_ratio_due pm__law_ratio_due an__law_ratio_due (.ref cd__law_ratio_due) ct__law_ratio_due), sl__law_ratio_due⟩) (c__law_ratio_due : PySem.W.codeIn K (.ref cd__law_ratio_due) "_law_ratio_due" = true) (k__law_ratio_due : PySem.W.keepIn K (.ref f__law_ratio_due) = true)
    (a__law_integer : PySem.W.nsIn K mainGlobals "_law_integer" = some (some (.ref f__law_integer))) (l__law_integer : K.lookup f__law_integer = some ⟨oc__law_integer, od__law_integer, .func (PySem.W.fnOf "_law_integer" "_law_integer" (C8.fnArgs s__law_integer) (C8.fnBody s__law_integer) (C8.fnScope s__law_integer) .none kV__law_integer dc__law_integer pm__law_integer an__law_integer (.ref cd__law_integer) ct__law_integer), sl__law_integer⟩) (c__law_integer : PySem.W.codeIn K (.ref cd__law_integer) "_law_integer" = true) (k__law_integer : PySem.W.keepIn K (.ref f__law_integer) = true)
    (a__law_scale_due : PySem.W.nsIn K mainGlobals "_law_scale_due" = some (some (.ref f__law_scale_due))) (l__law_scale_due : K.lookup f__law_scale_due = some ⟨oc__law_scale_due, od__law_scale_due, .func (PySem.W.fnOf "_law_scale_due" "_law_scale_due" (C8.fnArgs s__law_scale_due) (C8.fnBody s__law_scale_due) (C8.fnScope s__law_scale_due) .none kV__law_scale_due dc__law_scale_due pm__law_scale_due an__law_scale_due (.ref cd__law_scale_due) ct__law_scale_due), sl__law_scale_due⟩) (c__law_scale_due : PySem.W.codeIn K (.ref cd__law_scale_due) "_law_scale_due" = true) (k__law_scale_due : PySem.W.keepIn K (.ref f__law_scale_due) = true)
    (a__law_scale : PySem.W.nsIn K mainGlobals "_law_scale" = some (some (.ref f__law_scale))) (l__law_scale : K.lookup f__law_scale = some ⟨oc__law_scale, od__law_scale, .func (PySem.W.fnOf "_law_scale" "_law_scale" (C8.fnArgs s__law_scale) (C8.fnBody s__law_scale) (C8.fnScope s__law_scale) .none kV__law_scale dc__law_scale pm__law_scale an__law_scale (.ref cd__law_scale) ct__law_scale), sl__law_scale⟩) (c__law_scale : PySem.W.codeIn K (.ref cd__law_scale) "_law_scale" = true) (k__law_scale : PySem.W.keepIn K (.ref f__law_scale) = true)
    (a__law_fee : PySem.W.nsIn K mainGlobals "_law_fee" = some (some (.ref f__law_fee))) (l__law_fee : K.lookup f__law_fee = some ⟨oc__law_fee, od__law_fee, .func (PySem.W.fnOf "_law_fee" "_law_fee" (C8.fnArgs s__law_fee) (C8.fnBody s__law_fee) (C8.fnScope s__law_fee) .none kV__law_fee dc__law_fee pm__law_fee an__law_fee (.ref cd__law_fee) ct__law_fee), sl__law_fee⟩) (c__law_fee : PySem.W.codeIn K (.ref cd__law_fee) "_law_fee" = true) (k__law_fee : PySem.W.keepIn K (.ref f__law_fee) = true)
    (a__law_round : PySem.W.nsIn K mainGlobals "_law_round" = some (some (.ref f__law_round))) (l__law_round : K.lookup f__law_round = some ⟨oc__law_round, od__law_round, .func (PySem.W.fnOf "_law_round" "_law_round" (C8.fnArgs s__law_round) (C8.fnBody s__law_round) (C8.fnScope s__law_round) .none kV__law_round dc__law_round pm__law_round an__law_round (.ref cd__law_round) ct__law_round), sl__law_round⟩) (c__law_round : PySem.W.codeIn K (.ref cd__law_round) "_law_round" = true) (k__law_round : PySem.W.keepIn K (.ref f__law_round) = true)
    (a__law_refused : PySem.W.nsIn K mainGlobals "_law_refused" = some (some (.ref f__law_refused))) (l__law_refused : K.lookup f__law_refused = some ⟨oc__law_refused, od__law_refused, .func (PySem.W.fnOf "_law_refused" "_law_refused" (C8.fnArgs s__law_refused) (C8.fnBody s__law_refused) (C8.fnScope s__law_refused) .none kV__law_refused dc__law_refused pm__law_refused an__law_refused (.ref cd__law_refused) ct__law_refused), sl__law_refused⟩) (c__law_refused : PySem.W.codeIn K (.ref cd__law_refused) "_law_refused" = true) (k__law_refused : PySem.W.keepIn K (.ref f__law_refused) = true)
    (a__law_worth_fine : PySem.W.nsIn K mainGlobals "_law_worth_fine" = some (some (.ref f__law_worth_fine))) (l__law_worth_fine : K.lookup f__law_worth_fine = some ⟨oc__law_worth_fine, od__law_worth_fine, .func (PySem.W.fnOf "_law_worth_fine" "_law_worth_fine" (C8.fnArgs s__law_worth_fine) (C8.fnBody s__law_worth_fine) (C8.fnScope s__law_worth_fine) .none kV__law_worth_fine dc__law_worth_fine pm__law_worth_fine an__law_worth_fine (.ref cd__law_worth_fine) ct__law_worth_fine), sl__law_worth_fine⟩) (c__law_worth_fine : PySem.W.codeIn K (.ref cd__law_worth_fine) "_law_worth_fine" = true) (k__law_worth_fine : PySem.W.keepIn K (.ref f__law_worth_fine) = true)
    (a__law_ratios_fine : PySem.W.nsIn K mainGlobals "_law_ratios_fine" = some (some (.ref f__law_ratios_fine))) (l__law_ratios_fine : K.lookup f__law_ratios_fine = some ⟨oc__law_ratios_fine, od__law_ratios_fine, .func (PySem.W.fnOf "_law_ratios_fine" "_law_ratios_fine" (C8.fnArgs s__law_ratios_fine) (C8.fnBody s__law_ratios_fine) (C8.fnScope s__law_ratios_fine) .none kV__law_ratios_fine dc__law_ratios_fine pm__law_ratios_fine an__law_ratios_fine (.ref cd__law_ratios_fine) ct__law_ratios_fine), sl__law_ratios_fine⟩) (c__law_ratios_fine : PySem.W.codeIn K (.ref cd__law_ratios_fine) "_law_ratios_fine" = true) (k__law_ratios_fine : PySem.W.keepIn K (.ref f__law_ratios_fine) = true)
    (a_law : PySem.W.nsIn K mainGlobals "law" = some (some (.ref f_law))) (l_law : K.lookup f_law = some ⟨oc_law, od_law, .func (PySem.W.fnOf "law" "law" (C8.fnArgs s_law) (C8.fnBody s_law) (C8.fnScope s_law) .none kV_law dc_law pm_law an_law (.ref cd_law) ct_law), sl_law⟩) (c_law : PySem.W.codeIn K (.ref cd_law) "law" = true) (k_law : PySem.W.keepIn K (.ref f_law) = true)
    (w_is_ratio : K.lookup cd_is_ratio = some ⟨e_is_ratio, dd_is_ratio, .fields vs_is_ratio, sx_is_ratio⟩) (u_is_ratio : vs_is_ratio[11]? = some (.ref T_is_ratio)) (t_is_ratio : codeB K cd_is_ratio T_is_ratio = true) (n_is_ratio : K.lookup T_is_ratio = none) (r_is_ratio : ((recsOf q).any fun e => e.name == ("is_ratio" : Str)) = true)
    (w_is_scale : K.lookup cd_is_scale = some ⟨e_is_scale, dd_is_scale, .fields vs_is_scale, sx_is_scale⟩) (u_is_scale : vs_is_scale[11]? = some (.ref T_is_scale)) (t_is_scale : codeB K cd_is_scale T_is_scale = true) (n_is_scale : K.lookup T_is_scale = none) (r_is_scale : ((recsOf q).any fun e => e.name == ("is_scale" : Str)) = true)
    (z_abs : PySem.W.nsIn K mainGlobals "abs" = some none)
    (z_all : PySem.W.nsIn K mainGlobals "all" = some none)
    (z_bool : PySem.W.nsIn K mainGlobals "bool" = some none)
    (z_enumerate : PySem.W.nsIn K mainGlobals "enumerate" = some none)
    (z_int : PySem.W.nsIn K mainGlobals "int" = some none)
    (z_isinstance : PySem.W.nsIn K mainGlobals "isinstance" = some none)
    (z_len : PySem.W.nsIn K mainGlobals "len" = some none)
    (z_list : PySem.W.nsIn K mainGlobals "list" = some none)
    (z_max : PySem.W.nsIn K mainGlobals "max" = some none)
    (z_min : PySem.W.nsIn K mainGlobals "min" = some none)
    (z_range : PySem.W.nsIn K mainGlobals "range" = some none)
    (z_set : PySem.W.nsIn K mainGlobals "set" = some none)
    (z_sorted : PySem.W.nsIn K mainGlobals "sorted" = some none)
    (z_str : PySem.W.nsIn K mainGlobals "str" = some none)
    (z_tuple : PySem.W.nsIn K mainGlobals "tuple" = some none)
    (i_gcd : PySem.W.nsIn K mainGlobals "gcd" = some (some (.builtin "math.gcd")))
    (g_MAX_STEPS : PySem.W.nsIn K mainGlobals "MAX_STEPS" = some (some v_MAX_STEPS)) (d_MAX_STEPS : dqB K 9 v_MAX_STEPS k_MAX_STEPS = true)
    (g_MAX_WORTH : PySem.W.nsIn K mainGlobals "MAX_WORTH" = some (some v_MAX_WORTH)) (d_MAX_WORTH : dqB K 9 v_MAX_WORTH k_MAX_WORTH = true)
    (g_NOTHING : PySem.W.nsIn K mainGlobals "NOTHING" = some (some v_NOTHING)) (d_NOTHING : dqB K 9 v_NOTHING k_NOTHING = true)
    (g_ONE : PySem.W.nsIn K mainGlobals "ONE" = some (some v_ONE)) (d_ONE : dqB K 9 v_ONE k_ONE = true)
    (eC : PySem.W.nsIn K mainGlobals "NoAnswer" = some (some (.ref C))) (xC : PySem.W.excIn K C [.type "ValueError", .type "Exception", .type "BaseException", .type "object"] "ValueError.__new__" = true) (kC : PySem.W.keepIn K (.ref C) = true) (tC : PySem.W.typeIn K (.ref C) = some (.type "type")) (sC : PySem.W.subIn K (.ref C) (.ref C) = some true)
    (h1 : PySem.W.findIn K (.ref C) "__getattribute__" = some (some (.builtin "BaseException.__getattribute__"))) (h2 : PySem.W.findIn K (.ref C) "__getattr__" = some none) (h3 : PySem.W.subIn K (.ref C) (.type "BaseException") = some true) (h4 : PySem.W.hasDictIn K C = true) (h5 : PySem.W.findIn K (.ref C) "__class__" = some (some (.builtin "object.__class__"))) (h6 : PySem.W.specialIn K (.builtin "object.__class__") "__get__" = some (some (.builtin "getset_descriptor.__get__"))) (h7 : PySem.W.takesIn K (.builtin "object.__class__") = some true) (h8 : PySem.W.mroIn K C (.type "object") = some true)
    (e1 : PySem.W.nsIn K mainGlobals "BadText" = some (some (.ref C1)))
    (e2 : PySem.W.nsIn K mainGlobals "NotAllowed" = some (some (.ref C2)))
    (e3 : PySem.W.nsIn K mainGlobals "NotPossible" = some (some (.ref C3)))
    (e4 : PySem.W.nsIn K mainGlobals "TooMany" = some (some (.ref C4)))
    (m1 : PySem.W.kitOne K (.ref C) (.ref C1) = some false)
    (m2 : PySem.W.kitOne K (.ref C) (.ref C2) = some false)
    (m3 : PySem.W.kitOne K (.ref C) (.ref C3) = some false)
    (m4 : PySem.W.kitOne K (.ref C) (.ref C4) = some false)
    (hf : ∀ ns : List Int, ns.length ≤ 63 → runLaw 9 b_law ns = .ok (.sh, .bool true)) :
    LamX.LawAtS l w K C8.CX0 13 63 "script" mg fa h := by
  have e := hfa.symm.trans (PySem.W.mg_of X G a_law)
  cases e
  have F_is_number : DefC K mg "is_number" s_is_number f_is_number _ cd_is_number := ⟨⟨_, _, _, _, _, _, _, _, _, rfl, l_is_number, c_is_number⟩, PySem.W.mg_of X G a_is_number, k_is_number⟩
  have b_is_number := F_is_number.binds (ps := ["value", "least", "most"]) rfl fun _ _ _ _ _ _ us hl => match us, hl with | [_, _, _], _ => rfl
  have F_is_ratio : DefC K mg "is_ratio" s_is_ratio f_is_ratio _ cd_is_ratio := ⟨⟨_, _, _, _, _, _, _, _, _, rfl, l_is_ratio, c_is_ratio⟩, PySem.W.mg_of X G a_is_ratio, k_is_ratio⟩
  have b_is_ratio := F_is_ratio.binds (ps := ["value"]) rfl fun _ _ _ _ _ _ us hl => match us, hl with | [_], _ => rfl
  have F_ratio : DefC K mg "ratio" s_ratio f_ratio _ cd_ratio := ⟨⟨_, _, _, _, _, _, _, _, _, rfl, l_ratio, c_ratio⟩, PySem.W.mg_of X G a_ratio, k_ratio⟩
  have b_ratio := F_ratio.binds (ps := ["p", "q"]) rfl fun _ _ _ _ _ _ us hl => match us, hl with | [_, _], _ => rfl
  have F_plus : DefC K mg "plus" s_plus f_plus _ cd_plus := ⟨⟨_, _, _, _, _, _, _, _, _, rfl, l_plus, c_plus⟩, PySem.W.mg_of X G a_plus, k_plus⟩
  have b_plus := F_plus.binds (ps := ["a", "b"]) rfl fun _ _ _ _ _ _ us hl => match us, hl with | [_, _], _ => rfl
  have F_times : DefC K mg "times" s_times f_times _ cd_times := ⟨⟨_, _, _, _, _, _, _, _, _, rfl, l_times, c_times⟩, PySem.W.mg_of X G a_times, k_times⟩
  have b_times := F_times.binds (ps := ["a", "b"]) rfl fun _ _ _ _ _ _ us hl => match us, hl with | [_, _], _ => rfl
  have F_less : DefC K mg "less" s_less f_less _ cd_less := ⟨⟨_, _, _, _, _, _, _, _, _, rfl, l_less, c_less⟩, PySem.W.mg_of X G a_less, k_less⟩
  have b_less := F_less.binds (ps := ["a", "b"]) rfl fun _ _ _ _ _ _ us hl => match us, hl with | [_, _], _ => rfl
  have F_rounded : DefC K mg "rounded" s_rounded f_rounded _ cd_rounded := ⟨⟨_, _, _, _, _, _, _, _, _, rfl, l_rounded, c_rounded⟩, PySem.W.mg_of X G a_rounded, k_rounded⟩
  have b_rounded := F_rounded.binds (ps := ["a"]) rfl fun _ _ _ _ _ _ us hl => match us, hl with | [_], _ => rfl
  have F_is_step : DefC K mg "is_step" s_is_step f_is_step _ cd_is_step := ⟨⟨_, _, _, _, _, _, _, _, _, rfl, l_is_step, c_is_step⟩, PySem.W.mg_of X G a_is_step, k_is_step⟩
  have b_is_step := F_is_step.binds (ps := ["value"]) rfl fun _ _ _ _ _ _ us hl => match us, hl with | [_], _ => rfl
  have F_is_scale : DefC K mg "is_scale" s_is_scale f_is_scale _ cd_is_scale := ⟨⟨_, _, _, _, _, _, _, _, _, rfl, l_is_scale, c_is_scale⟩, PySem.W.mg_of X G a_is_scale, k_is_scale⟩
  have b_is_scale := F_is_scale.binds (ps := ["value"]) rfl fun _ _ _ _ _ _ us hl => match us, hl with | [_], _ => rfl
  have F_fee : DefC K mg "fee" s_fee f_fee _ cd_fee := ⟨⟨_, _, _, _, _, _, _, _, _, rfl, l_fee, c_fee⟩, PySem.W.mg_of X G a_fee, k_fee⟩
  have b_fee := F_fee.binds (ps := ["scale", "worth"]) rfl fun _ _ _ _ _ _ us hl => match us, hl with | [_, _], _ => rfl
  have F_fee_cents : DefC K mg "fee_cents" s_fee_cents f_fee_cents _ cd_fee_cents := ⟨⟨_, _, _, _, _, _, _, _, _, rfl, l_fee_cents, c_fee_cents⟩, PySem.W.mg_of X G a_fee_cents, k_fee_cents⟩
  have b_fee_cents := F_fee_cents.binds (ps := ["scale", "worth"]) rfl fun _ _ _ _ _ _ us hl => match us, hl with | [_, _], _ => rfl
  have F_worth_for : DefC K mg "worth_for" s_worth_for f_worth_for _ cd_worth_for := ⟨⟨_, _, _, _, _, _, _, _, _, rfl, l_worth_for, c_worth_for⟩, PySem.W.mg_of X G a_worth_for, k_worth_for⟩
  have b_worth_for := F_worth_for.binds (ps := ["scale", "cents"]) rfl fun _ _ _ _ _ _ us hl => match us, hl with | [_, _], _ => rfl
  have F__law_box : DefC K mg "_law_box" s__law_box f__law_box _ cd__law_box := ⟨⟨_, _, _, _, _, _, _, _, _, rfl, l__law_box, c__law_box⟩, PySem.W.mg_of X G a__law_box, k__law_box⟩
  have b__law_box := F__law_box.binds (ps := ["script"]) rfl fun _ _ _ _ _ _ us hl => match us, hl with | [_], _ => rfl
  have F__law_load : DefC K mg "_law_load" s__law_load f__law_load _ cd__law_load := ⟨⟨_, _, _, _, _, _, _, _, _, rfl, l__law_load, c__law_load⟩, PySem.W.mg_of X G a__law_load, k__law_load⟩
  have b__law_load := F__law_load.binds (ps := ["box"]) rfl fun _ _ _ _ _ _ us hl => match us, hl with | [_], _ => rfl
  have F__law_draw : DefC K mg "_law_draw" s__law_draw f__law_draw _ cd__law_draw := ⟨⟨_, _, _, _, _, _, _, _, _, rfl, l__law_draw, c__law_draw⟩, PySem.W.mg_of X G a__law_draw, k__law_draw⟩
  have b__law_draw := F__law_draw.binds (ps := ["box", "many"]) rfl fun _ _ _ _ _ _ us hl => match us, hl with | [_, _], _ => rfl
  have F__law_same : DefC K mg "_law_same" s__law_same f__law_same _ cd__law_same := ⟨⟨_, _, _, _, _, _, _, _, _, rfl, l__law_same, c__law_same⟩, PySem.W.mg_of X G a__law_same, k__law_same⟩
  have b__law_same := F__law_same.binds (ps := ["a", "b"]) rfl fun _ _ _ _ _ _ us hl => match us, hl with | [_, _], _ => rfl
  have F__law_bent : DefC K mg "_law_bent" s__law_bent f__law_bent _ cd__law_bent := ⟨⟨_, _, _, _, _, _, _, _, _, rfl, l__law_bent, c__law_bent⟩, PySem.W.mg_of X G a__law_bent, k__law_bent⟩
  have b__law_bent := F__law_bent.binds (ps := ["box", "value"]) rfl fun _ _ _ _ _ _ us hl => match us, hl with | [_, _], _ => rfl
  have F__law_common : DefC K mg "_law_common" s__law_common f__law_common _ cd__law_common := ⟨⟨_, _, _, _, _, _, _, _, _, rfl, l__law_common, c__law_common⟩, PySem.W.mg_of X G a__law_common, k__law_common⟩
  have b__law_common := F__law_common.binds (ps := ["a", "b"]) rfl fun _ _ _ _ _ _ us hl => match us, hl with | [_, _], _ => rfl
  have F__law_lowest : DefC K mg "_law_lowest" s__law_lowest f__law_lowest _ cd__law_lowest := ⟨⟨_, _, _, _, _, _, _, _, _, rfl, l__law_lowest, c__law_lowest⟩, PySem.W.mg_of X G a__law_lowest, k__law_lowest⟩
  have b__law_lowest := F__law_lowest.binds (ps := ["p", "q"]) rfl fun _ _ _ _ _ _ us hl => match us, hl with | [_, _], _ => rfl
  have F__law_ratio_due : DefC K mg "_law_ratio_due" s__law_ratio_due f__law_ratio_due _ cd__law_ratio_due := ⟨⟨_, _, _, _, _, _, _, _, _, rfl, l__law_ratio_due, c__law_ratio_due⟩, PySem.W.mg_of X G a__law_ratio_due, k__law_ratio_due⟩
  have b__law_ratio_due := F__law_ratio_due.binds (ps := ["value"]) rfl fun _ _ _ _ _ _ us hl => match us, hl with | [_], _ => rfl
  have F__law_integer : DefC K mg "_law_integer" s__law_integer f__law_integer _ cd__law_integer := ⟨⟨_, _, _, _, _, _, _, _, _, rfl, l__law_integer, c__law_integer⟩, PySem.W.mg_of X G a__law_integer, k__law_integer⟩
  have b__law_integer := F__law_integer.binds (ps := ["box"]) rfl fun _ _ _ _ _ _ us hl => match us, hl with | [_], _ => rfl
  have F__law_scale_due : DefC K mg "_law_scale_due" s__law_scale_due f__law_scale_due _ cd__law_scale_due := ⟨⟨_, _, _, _, _, _, _, _, _, rfl, l__law_scale_due, c__law_scale_due⟩, PySem.W.mg_of X G a__law_scale_due, k__law_scale_due⟩
  have b__law_scale_due := F__law_scale_due.binds (ps := ["value"]) rfl fun _ _ _ _ _ _ us hl => match us, hl with | [_], _ => rfl
  have F__law_scale : DefC K mg "_law_scale" s__law_scale f__law_scale _ cd__law_scale := ⟨⟨_, _, _, _, _, _, _, _, _, rfl, l__law_scale, c__law_scale⟩, PySem.W.mg_of X G a__law_scale, k__law_scale⟩
  have b__law_scale := F__law_scale.binds (ps := ["box"]) rfl fun _ _ _ _ _ _ us hl => match us, hl with | [_], _ => rfl
  have F__law_fee : DefC K mg "_law_fee" s__law_fee f__law_fee _ cd__law_fee := ⟨⟨_, _, _, _, _, _, _, _, _, rfl, l__law_fee, c__law_fee⟩, PySem.W.mg_of X G a__law_fee, k__law_fee⟩
  have b__law_fee := F__law_fee.binds (ps := ["scale", "worth"]) rfl fun _ _ _ _ _ _ us hl => match us, hl with | [_, _], _ => rfl
  have F__law_round : DefC K mg "_law_round" s__law_round f__law_round _ cd__law_round := ⟨⟨_, _, _, _, _, _, _, _, _, rfl, l__law_round, c__law_round⟩, PySem.W.mg_of X G a__law_round, k__law_round⟩
  have b__law_round := F__law_round.binds (ps := ["a"]) rfl fun _ _ _ _ _ _ us hl => match us, hl with | [_], _ => rfl
  have F__law_refused : DefC K mg "_law_refused" s__law_refused f__law_refused _ cd__law_refused := ⟨⟨_, _, _, _, _, _, _, _, _, rfl, l__law_refused, c__law_refused⟩, PySem.W.mg_of X G a__law_refused, k__law_refused⟩
  have b__law_refused := F__law_refused.binds (ps := ["scale", "cents"]) rfl fun _ _ _ _ _ _ us hl => match us, hl with | [_, _], _ => rfl
  have F__law_worth_fine : DefC K mg "_law_worth_fine" s__law_worth_fine f__law_worth_fine _ cd__law_worth_fine := ⟨⟨_, _, _, _, _, _, _, _, _, rfl, l__law_worth_fine, c__law_worth_fine⟩, PySem.W.mg_of X G a__law_worth_fine, k__law_worth_fine⟩
  have b__law_worth_fine := F__law_worth_fine.binds (ps := ["scale", "cents"]) rfl fun _ _ _ _ _ _ us hl => match us, hl with | [_, _], _ => rfl
  have F__law_ratios_fine : DefC K mg "_law_ratios_fine" s__law_ratios_fine f__law_ratios_fine _ cd__law_ratios_fine := ⟨⟨_, _, _, _, _, _, _, _, _, rfl, l__law_ratios_fine, c__law_ratios_fine⟩, PySem.W.mg_of X G a__law_ratios_fine, k__law_ratios_fine⟩
  have b__law_ratios_fine := F__law_ratios_fine.binds (ps := ["box"]) rfl fun _ _ _ _ _ _ us hl => match us, hl with | [_], _ => rfl
  have F_law : DefC K mg "law" s_law fa _ cd_law := ⟨⟨_, _, _, _, _, _, _, _, _, rfl, l_law, c_law⟩, PySem.W.mg_of X G a_law, k_law⟩
  obtain ⟨p_is_ratio, q_is_ratio⟩ := tab_of X TT r_is_ratio (PySem.W.mg_of X G a_is_ratio) l_is_ratio rfl rfl t_is_ratio
  obtain ⟨p_is_scale, q_is_scale⟩ := tab_of X TT r_is_scale (PySem.W.mg_of X G a_is_scale) l_is_scale rfl rfl t_is_scale
  have LW : Lw K mg (⟨K, [T_is_ratio, T_is_scale], fun _ => none⟩ : Gh) := { hK := rfl, z_abs := PySem.W.mg_none_of X G z_abs, z_all := PySem.W.mg_none_of X G z_all, z_bool := PySem.W.mg_none_of X G z_bool, z_enumerate := PySem.W.mg_none_of X G z_enumerate, z_int := PySem.W.mg_none_of X G z_int, z_isinstance := PySem.W.mg_none_of X G z_isinstance, z_len := PySem.W.mg_none_of X G z_len, z_list := PySem.W.mg_none_of X G z_list, z_max := PySem.W.mg_none_of X G z_max, z_min := PySem.W.mg_none_of X G z_min, z_range := PySem.W.mg_none_of X G z_range, z_set := PySem.W.mg_none_of X G z_set, z_sorted := PySem.W.mg_none_of X G z_sorted, z_str := PySem.W.mg_none_of X G z_str, z_tuple := PySem.W.mg_none_of X G z_tuple, i_gcd := PySem.W.mg_of X G i_gcd, g_MAX_STEPS := glob_of X G g_MAX_STEPS d_MAX_STEPS, g_MAX_WORTH := glob_of X G g_MAX_WORTH d_MAX_WORTH, g_NOTHING := glob_of X G g_NOTHING d_NOTHING, g_ONE := glob_of X G g_ONE d_ONE }
  have XT : ExT K mg C C1 C2 C3 C4 := { gC := PySem.W.mg_of X G eC, xC := xC, kC := kC, tC := tC, sC := sC, ec := ⟨h1, h2, h3, h4, h5, h6, h7, h8⟩, g1 := PySem.W.mg_of X G e1, g2 := PySem.W.mg_of X G e2, g3 := PySem.W.mg_of X G e3, g4 := PySem.W.mg_of X G e4, ki := kitAny_cons m1 (fun _ => kitAny_cons m2 (fun _ => kitAny_cons m3 (fun _ => kitAny_cons m4 (fun _ => kitAny_nil) (fun z => nomatch z)) (fun z => nomatch z)) (fun z => nomatch z)) (fun z => nomatch z) }
  refine ⟨PySem.W.fnOf "law" "law" (C8.fnArgs s_law) (C8.fnBody s_law) (C8.fnScope s_law) .none kV_law dc_law pm_law an_law (.ref cd_law) ct_law, [(cd_is_ratio, T_is_ratio), (cd_is_scale, T_is_scale)], spLaw ⟨K, [T_is_ratio, T_is_scale], fun _ => none⟩, (List.forall_mem_cons.mpr ⟨p_is_ratio, (List.forall_mem_cons.mpr ⟨p_is_scale, (fun p hp => absurd hp (by simp))⟩)⟩), (List.forall_mem_cons.mpr ⟨n_is_ratio, (List.forall_mem_cons.mpr ⟨n_is_scale, (fun p hp => absurd hp (by simp))⟩)⟩), (List.forall_mem_cons.mpr ⟨q_is_ratio, (List.forall_mem_cons.mpr ⟨q_is_scale, (fun p hp => absurd hp (by simp))⟩)⟩), fun s u => .of_eq rfl, fun H a ns hl _ hT hS => ⟨a, ns, rfl, hS, hl, _, rel0 (fun P hP => ?_), fun _ => rfl⟩, fun base hKb hNs hTB => ?_⟩
  · simp only [List.mem_cons, List.not_mem_nil, or_false] at hP
    rcases hP with hP | hP
    · rw [hP]; exact hT (cd_is_ratio, T_is_ratio) (by simp)
    · rw [hP]; exact hT (cd_is_scale, T_is_scale) (by simp)
  have c_is_number := cal_is_number (P := l.prog) (w := w) (base := base) LW F_is_number b_is_number 
  have c_is_ratio := cal_is_ratio (P := l.prog) (w := w) (base := base) LW F_is_ratio (tabB_of (hTB (cd_is_ratio, T_is_ratio) (by simp))) (by simp) b_is_ratio 
  have c_ratio := cal_ratio (P := l.prog) (w := w) (base := base) LW F_ratio b_ratio 
  have c_plus := cal_plus (P := l.prog) (w := w) (base := base) LW F_plus b_plus c_ratio
  have c_times := cal_times (P := l.prog) (w := w) (base := base) LW F_times b_times c_ratio
  have c_less := cal_less (P := l.prog) (w := w) (base := base) LW F_less b_less 
  have c_rounded := cal_rounded (P := l.prog) (w := w) (base := base) LW F_rounded b_rounded 
  have c_is_step := cal_is_step (P := l.prog) (w := w) (base := base) LW F_is_step b_is_step c_is_number c_is_ratio c_less
  have c_is_scale := cal_is_scale (P := l.prog) (w := w) (base := base) LW F_is_scale (tabB_of (hTB (cd_is_scale, T_is_scale) (by simp))) (by simp) b_is_scale c_is_step
  have c_fee := cal_fee (P := l.prog) (w := w) (base := base) LW F_fee b_fee c_plus c_times
  have c_fee_cents := cal_fee_cents (P := l.prog) (w := w) (base := base) LW F_fee_cents b_fee_cents c_rounded c_fee
  have c_worth_for := cal_worth_for (P := l.prog) (w := w) (base := base) LW F_worth_for b_worth_for c_fee_cents
  have c__law_box := cal__law_box (P := l.prog) (w := w) (base := base) LW F__law_box b__law_box 
  have c__law_load := cal__law_load (P := l.prog) (w := w) (base := base) LW F__law_load b__law_load 
  have c__law_draw := cal__law_draw (P := l.prog) (w := w) (base := base) LW F__law_draw b__law_draw c__law_load
  have c__law_same := cal__law_same (P := l.prog) (w := w) (base := base) LW F__law_same b__law_same 
  have c__law_bent := cal__law_bent (P := l.prog) (w := w) (base := base) LW F__law_bent b__law_bent c__law_draw
  have c__law_common := cal__law_common (P := l.prog) (w := w) (base := base) LW F__law_common b__law_common 
  have c__law_lowest := cal__law_lowest (P := l.prog) (w := w) (base := base) LW F__law_lowest b__law_lowest c__law_common
  have c__law_ratio_due := cal__law_ratio_due (P := l.prog) (w := w) (base := base) LW F__law_ratio_due b__law_ratio_due c__law_common
  have c__law_integer := cal__law_integer (P := l.prog) (w := w) (base := base) LW F__law_integer b__law_integer c__law_draw
  have c__law_scale_due := cal__law_scale_due (P := l.prog) (w := w) (base := base) LW F__law_scale_due b__law_scale_due c__law_ratio_due
  have c__law_scale := cal__law_scale (P := l.prog) (w := w) (base := base) LW F__law_scale b__law_scale c__law_draw c__law_lowest
  have c__law_fee := cal__law_fee (P := l.prog) (w := w) (base := base) LW F__law_fee b__law_fee c__law_lowest
  have c__law_round := cal__law_round (P := l.prog) (w := w) (base := base) LW F__law_round b__law_round 
  have c__law_refused := cal__law_refused (P := l.prog) (w := w) (base := base) LW XT (PySem.W.mg_none_of X G z_isinstance) F__law_refused b__law_refused F_worth_for b_worth_for c_fee_cents
  have c__law_worth_fine := cal__law_worth_fine (P := l.prog) (w := w) (base := base) LW F__law_worth_fine b__law_worth_fine c__law_round c__law_fee c__law_refused c_worth_for
  have c__law_ratios_fine := cal__law_ratios_fine (P := l.prog) (w := w) (base := base) LW F__law_ratios_fine b__law_ratios_fine c__law_integer c__law_lowest c__law_same c_ratio c_is_ratio c_plus c_times c_less c__law_round c_rounded c__law_bent c__law_ratio_due
  exact fn_law (P := l.prog) (w := w) (base := base) LW F_law c__law_box c__law_ratios_fine c__law_scale c__law_same c_is_scale c__law_bent c__law_scale_due c__law_draw c__law_fee c_fee c__law_round c_fee_cents c__law_worth_fine hf
end Yk65
set_option maxRecDepth 100000
/-! the plain side: rules that work a pure reading out -/
namespace O
open PySem
def thenK {α β : Type} (x : M α) (k : α → M β) : M β := x >>= k
@[simp] theorem thenK_ok {α β : Type} {a : α} {k : α → M β} : thenK (.ok a) k = k a := (rfl)
@[simp] theorem ex_bind {α β : Type} (a : α) (f : α → M β) : (Except.ok a >>= f) = f a := rfl
@[simp] theorem ex_pure {α : Type} (a : α) : (pure a : M α) = Except.ok a := rfl
/-! the combinators, one step each -/
def getK (i : Nat) (S : SS) : M MV := match S[i]? with
  | some (some r) => .ok r
  | _ => stk
@[simp] theorem getK_0 {r : MV} {S : SS} : getK 0 (some r :: S) = .ok r := (rfl)
@[simp] theorem getK_s {i : Nat} {x : Option MV} {S : SS} : getK (i + 1) (x :: S) = getK i S := (rfl)
@[simp] theorem getK_1 {x : Option MV} {S : SS} : getK 1 (x :: S) = getK 0 S := (rfl)
@[simp] theorem getK_2 {x : Option MV} {S : SS} : getK 2 (x :: S) = getK 1 S := (rfl)
@[simp] theorem getK_3 {x : Option MV} {S : SS} : getK 3 (x :: S) = getK 2 S := (rfl)
@[simp] theorem getK_4 {x : Option MV} {S : SS} : getK 4 (x :: S) = getK 3 S := (rfl)
@[simp] theorem getK_5 {x : Option MV} {S : SS} : getK 5 (x :: S) = getK 4 S := (rfl)
@[simp] theorem getK_6 {x : Option MV} {S : SS} : getK 6 (x :: S) = getK 5 S := (rfl)
@[simp] theorem getK_7 {x : Option MV} {S : SS} : getK 7 (x :: S) = getK 6 S := (rfl)
@[simp] theorem getK_8 {x : Option MV} {S : SS} : getK 8 (x :: S) = getK 7 S := (rfl)
@[simp] theorem getK_9 {x : Option MV} {S : SS} : getK 9 (x :: S) = getK 8 S := (rfl)
@[simp] theorem getK_10 {x : Option MV} {S : SS} : getK 10 (x :: S) = getK 9 S := (rfl)
@[simp] theorem getK_11 {x : Option MV} {S : SS} : getK 11 (x :: S) = getK 10 S := (rfl)
@[simp] theorem getK_12 {x : Option MV} {S : SS} : getK 12 (x :: S) = getK 11 S := (rfl)
@[simp] theorem getK_13 {x : Option MV} {S : SS} : getK 13 (x :: S) = getK 12 S := (rfl)
@[simp] theorem getK_14 {x : Option MV} {S : SS} : getK 14 (x :: S) = getK 13 S := (rfl)
@[simp] theorem getK_15 {x : Option MV} {S : SS} : getK 15 (x :: S) = getK 14 S := (rfl)
@[simp] theorem getK_16 {x : Option MV} {S : SS} : getK 16 (x :: S) = getK 15 S := (rfl)
@[simp] theorem getK_17 {x : Option MV} {S : SS} : getK 17 (x :: S) = getK 16 S := (rfl)
@[simp] theorem getK_18 {x : Option MV} {S : SS} : getK 18 (x :: S) = getK 17 S := (rfl)
@[simp] theorem getK_19 {x : Option MV} {S : SS} : getK 19 (x :: S) = getK 18 S := (rfl)
@[simp] theorem getK_20 {x : Option MV} {S : SS} : getK 20 (x :: S) = getK 19 S := (rfl)
@[simp] theorem getK_21 {x : Option MV} {S : SS} : getK 21 (x :: S) = getK 20 S := (rfl)
@[simp] theorem getK_22 {x : Option MV} {S : SS} : getK 22 (x :: S) = getK 21 S := (rfl)
@[simp] theorem getK_23 {x : Option MV} {S : SS} : getK 23 (x :: S) = getK 22 S := (rfl)
@[simp] theorem getK_24 {x : Option MV} {S : SS} : getK 24 (x :: S) = getK 23 S := (rfl)
def k_runD_3 (r : MV) : List MV → M (MV × List MV) := fun fs => .ok (r, fs)
@[simp] theorem k_runD_3_ok (r : MV) {fs : List MV} : k_runD_3 r fs = .ok (r, fs) := (rfl)
def k_runD_2 (io : List Nat) (S : SS) : MV → M (MV × List MV) := fun r => thenK (takesD io S) (k_runD_3 r)
@[simp] theorem k_runD_2_ok (io : List Nat) (S : SS) {r : MV} : k_runD_2 io S r = thenK (takesD io S) (k_runD_3 r) := (rfl)
def k_runD_1 (io : List Nat) : Fl × SS → M (MV × List MV) := fun (fl, S) => thenK (flR fl) (k_runD_2 io S)
@[simp] theorem k_runD_1_ok (io : List Nat) {fl : Fl} {S : SS} : k_runD_1 io (fl, S) = thenK (flR fl) (k_runD_2 io S) := (rfl)
@[simp] theorem u_runD {m : Nat} {io : List Nat} {body : FS} {rs : List MV} : runD m io body rs = thenK (body (rs.map some ++ List.replicate (m - rs.length) none)) (k_runD_1 io) := (rfl)
@[simp] theorem u_flR_nx : flR .nx = .ok (.sh, .none) := (rfl)
@[simp] theorem u_flR_rt {r : MV} : flR (.rt r) = .ok r := (rfl)
@[simp] theorem u_takes0 {S : SS} : takesD [] S = .ok [] := (rfl)
def k_takes_1 (r : MV) : List MV → M (List MV) := fun rs => .ok (r :: rs)
@[simp] theorem k_takes_1_ok {r : MV} {rs : List MV} : k_takes_1 r rs = .ok (r :: rs) := (rfl)
def k_takes_0 (i : Nat) (is : List Nat) (S : SS) : MV → M (List MV) := fun r => thenK (takesD is (S.set i none)) (k_takes_1 r)
@[simp] theorem k_takes_0_ok {i : Nat} {is : List Nat} {S : SS} {r : MV} : k_takes_0 i is S r = thenK (takesD is (S.set i none)) (k_takes_1 r) := (rfl)
@[simp] theorem u_takes1 {i : Nat} {S : SS} {is : List Nat} : takesD (i :: is) S = thenK (getK i S) (k_takes_0 i is S) := by
  show (match S[i]? with | some (some r) => _ | _ => _) = _
  unfold getK thenK k_takes_0
  rcases h : S[i]? with _ | ⟨_ | r⟩ <;> rfl
@[simp] theorem u_sNil {S : SS} : sNil S = .ok (.nx, S) := (rfl)
def k_sSeq_1 (g : FS) : Fl × SS → M (Fl × SS) := fun (fl, S1) => match fl with | .nx => g S1 | .bk => .ok (.bk, S1) | .ct => .ok (.ct, S1) | .rt r => .ok (.rt r, S1)
@[simp] theorem k_sSeq_1_c0 (g : FS) {S1 : SS} : k_sSeq_1 g (.nx, S1) = g S1 := (rfl)
@[simp] theorem k_sSeq_1_c1 (g : FS) {S1 : SS} : k_sSeq_1 g (.bk, S1) = .ok (.bk, S1) := (rfl)
@[simp] theorem k_sSeq_1_c2 (g : FS) {S1 : SS} : k_sSeq_1 g (.ct, S1) = .ok (.ct, S1) := (rfl)
@[simp] theorem k_sSeq_1_c3 (g : FS) {S1 : SS} {r : MV} : k_sSeq_1 g (.rt r, S1) = .ok (.rt r, S1) := (rfl)
@[simp] theorem u_sSeq {f : FS} {g : FS} {S : SS} : sSeq f g S = thenK (f S) (k_sSeq_1 g) := (rfl)
def k_sRet_1  : MV × SS → M (Fl × SS) := fun (r, S1) => .ok (.rt r, S1)
@[simp] theorem k_sRet_1_ok  {r : MV} {S1 : SS} : k_sRet_1 (r, S1) = .ok (.rt r, S1) := (rfl)
@[simp] theorem u_sRet {f : FE} {S : SS} : sRet f S = thenK (f S) (k_sRet_1) := (rfl)
@[simp] theorem u_sRetN {S : SS} : sRetN S = .ok (.rt (.sh, .none), S) := (rfl)
def k_sIf_1 (f : FS) (g : FS) : Bool × SS → M (Fl × SS) := fun (b, S1) => if b then f S1 else g S1
@[simp] theorem k_sIf_1_c0 (f : FS) (g : FS) {S1 : SS} : k_sIf_1 f g (true, S1) = f S1 := (rfl)
@[simp] theorem k_sIf_1_c1 (f : FS) (g : FS) {S1 : SS} : k_sIf_1 f g (false, S1) = g S1 := (rfl)
@[simp] theorem u_sIf {t : FT} {f : FS} {g : FS} {S : SS} : sIf t f g S = thenK (t S) (k_sIf_1 f g) := (rfl)
def k_sDrop_1  : MV × SS → M (Fl × SS) := fun (r, S1) => .ok (.nx, S1)
@[simp] theorem k_sDrop_1_ok  {r : MV} {S1 : SS} : k_sDrop_1 (r, S1) = .ok (.nx, S1) := (rfl)
@[simp] theorem u_sDrop {f : FE} {S : SS} : sDrop f S = thenK (f S) (k_sDrop_1) := (rfl)
@[simp] theorem u_sBk {S : SS} : sBk S = .ok (.bk, S) := (rfl)
@[simp] theorem u_sCt {S : SS} : sCt S = .ok (.ct, S) := (rfl)
@[simp] theorem u_gNm {S : SS} {i : Nat} {r : MV} : gNm i r S = .ok (S.set i (some r)) := (rfl)
@[simp] theorem u_gsNil {S : SS} : gsNil [] S = .ok S := (rfl)
@[simp] theorem u_gsCons {S : SS} {g : FG} {gs : FGs} {d : D} {ds : List D} : gsCons g gs (d :: ds) S = thenK (g (.sh, d) S) (gs ds) := (rfl)
@[simp] theorem u_gTp {S : SS} {n : Nat} {gs : FGs} {ds : List D} : gTp n gs (.sh, .tuple ds) S = if ds.length = n then gs ds S else stk := (rfl)
def k_nx : SS → M (Fl × SS) := fun S => .ok (.nx, S)
@[simp] theorem k_nx_ok {S : SS} : k_nx S = .ok (.nx, S) := (rfl)
def k_sAsg (g : FG) : MV × SS → M (Fl × SS) := fun (r, S1) => thenK (g r S1) k_nx
@[simp] theorem k_sAsg_ok {g : FG} {r : MV} {S1 : SS} : k_sAsg g (r, S1) = thenK (g r S1) k_nx := (rfl)
@[simp] theorem u_sAsg {S : SS} {g : FG} {f : FE} : sAsg g f S = thenK (f S) (k_sAsg g) := (rfl)
def k_sAug_1 (i : Nat) : MV × SS → M (Fl × SS) := fun (r, S1) => .ok (.nx, S1.set i (some r))
@[simp] theorem k_sAug_1_ok (i : Nat) {r : MV} {S1 : SS} : k_sAug_1 i (r, S1) = .ok (.nx, S1.set i (some r)) := (rfl)
@[simp] theorem u_sAug {i : Nat} {sem : Sem2} {o : FO} {S : SS} : sAug i sem o S = thenK (fOp2 sem (oP i) o S) (k_sAug_1 i) := (rfl)
def k_sPar_1 (i : Nat) (j : Nat) : List Tk × SS → M (Fl × SS) := fun (ts, S1) => match ts with | [.val r, .val q] => .ok (.nx, (S1.set i (some r)).set j (some q)) | _ => stk
@[simp] theorem k_sPar_1_c0 (i : Nat) (j : Nat) {r q : MV} {S1 : SS} : k_sPar_1 i j ([.val r, .val q], S1) = .ok (.nx, (S1.set i (some r)).set j (some q)) := (rfl)
@[simp] theorem u_sPar {i : Nat} {j : Nat} {f : FA} {S : SS} : sPar i j f S = thenK (f S) (k_sPar_1 i j) := (rfl)
def k_sPar3_1 (i : Nat) (j : Nat) (l : Nat) : List Tk × SS → M (Fl × SS) := fun (ts, S1) => match ts with | [.val r, .val q, .val z] => .ok (.nx, ((S1.set i (some r)).set j (some q)).set l (some z)) | _ => stk
@[simp] theorem k_sPar3_1_c0 (i : Nat) (j : Nat) (l : Nat) {r q z : MV} {S1 : SS} : k_sPar3_1 i j l ([.val r, .val q, .val z], S1) = .ok (.nx, ((S1.set i (some r)).set j (some q)).set l (some z)) := (rfl)
@[simp] theorem u_sPar3 {i : Nat} {j : Nat} {l : Nat} {f : FA} {S : SS} : sPar3 i j l f S = thenK (f S) (k_sPar3_1 i j l) := (rfl)
def k_sFor_1 (g : FG) (body : FS) : List D × SS → M (Fl × SS) := fun (ds, S1) => forD g body ds S1
@[simp] theorem k_sFor_1_ok (g : FG) (body : FS) {ds : List D} {S1 : SS} : k_sFor_1 g body (ds, S1) = forD g body ds S1 := (rfl)
@[simp] theorem u_sFor {fi : FI} {g : FG} {body : FS} {S : SS} : sFor fi g body S = thenK (fi S) (k_sFor_1 g body) := (rfl)
def k_fVar (i : Nat) (S : SS) : MV → M (MV × SS) := fun r => match r with
  | (.sh, d) => .ok ((.sh, d), S)
  | (.bo, d) => .ok ((.bo, d), S)
  | (.ow m, d) => if m.gives then .ok ((.sh, d), S.set i (some (.sh, d))) else stk
  | _ => stk
@[simp] theorem k_fVar_sh {i : Nat} {S : SS} {d : D} : k_fVar i S (.sh, d) = .ok ((.sh, d), S) := (rfl)
@[simp] theorem k_fVar_bo {i : Nat} {S : SS} {d : D} : k_fVar i S (.bo, d) = .ok ((.bo, d), S) := (rfl)
@[simp] theorem k_fVar_ow {i : Nat} {S : SS} {d : D} : k_fVar i S (.ow .sh, d) = .ok ((.sh, d), S.set i (some (.sh, d))) := (rfl)
@[simp] theorem u_fVar {i : Nat} {S : SS} : fVar i S = thenK (getK i S) (k_fVar i S) := by
  unfold fVar getK thenK k_fVar
  rcases h : S[i]? with _ | ⟨_ | ⟨m, d⟩⟩
  · rfl
  · rfl
  · cases m <;> rfl
def k_fTake (i : Nat) (S : SS) : MV → M (MV × SS) := fun r => .ok (r, S.set i none)
@[simp] theorem k_fTake_ok {i : Nat} {S : SS} {r : MV} : k_fTake i S r = .ok (r, S.set i none) := (rfl)
@[simp] theorem u_fTake {i : Nat} {S : SS} : fTake i S = thenK (getK i S) (k_fTake i S) := by
  unfold fTake getK thenK k_fTake
  rcases h : S[i]? with _ | ⟨_ | r⟩ <;> rfl
@[simp] theorem u_fCon {S : SS} {d : D} : fCon d S = .ok ((.sh, d), S) := (rfl)
def k_fN_3 (S1 : SS) : MV → M (MV × SS) := fun r => .ok (r, S1)
@[simp] theorem k_fN_3_ok (S1 : SS) {r : MV} : k_fN_3 S1 r = .ok (r, S1) := (rfl)
def k_fN_2 (sem : SemN) (S1 : SS) : List MV → M (MV × SS) := fun rs => thenK (sem rs) (k_fN_3 S1)
@[simp] theorem k_fN_2_ok (sem : SemN) (S1 : SS) {rs : List MV} : k_fN_2 sem S1 rs = thenK (sem rs) (k_fN_3 S1) := (rfl)
def k_fN_1 (sem : SemN) : List Tk × SS → M (MV × SS) := fun (ts, S1) => thenK (tkGets ts S1) (k_fN_2 sem S1)
@[simp] theorem k_fN_1_ok (sem : SemN) {ts : List Tk} {S1 : SS} : k_fN_1 sem (ts, S1) = thenK (tkGets ts S1) (k_fN_2 sem S1) := (rfl)
@[simp] theorem u_fN {sem : SemN} {f : FA} {S : SS} : fN sem f S = thenK (f S) (k_fN_1 sem) := (rfl)
def k_fO1_3 (S1 : SS) : MV → M (MV × SS) := fun z => .ok (z, S1)
@[simp] theorem k_fO1_3_ok (S1 : SS) {z : MV} : k_fO1_3 S1 z = .ok (z, S1) := (rfl)
def k_fO1_2 (gg : MV → M MV) (S1 : SS) : MV → M (MV × SS) := fun r => thenK (gg r) (k_fO1_3 S1)
@[simp] theorem k_fO1_2_ok (gg : MV → M MV) (S1 : SS) {r : MV} : k_fO1_2 gg S1 r = thenK (gg r) (k_fO1_3 S1) := (rfl)
def k_fO1_1 (gg : MV → M MV) : Tk × SS → M (MV × SS) := fun (t, S1) => thenK (tkGet t S1) (k_fO1_2 gg S1)
@[simp] theorem k_fO1_1_ok (gg : MV → M MV) {t : Tk} {S1 : SS} : k_fO1_1 gg (t, S1) = thenK (tkGet t S1) (k_fO1_2 gg S1) := (rfl)
@[simp] theorem u_fO1 {gg : MV → M MV} {o : FO} {S : SS} : fO1 gg o S = thenK (o S) (k_fO1_1 gg) := (rfl)
def k_fOp2_5 (S2 : SS) : MV → M (MV × SS) := fun r => .ok (r, S2)
@[simp] theorem k_fOp2_5_ok (S2 : SS) {r : MV} : k_fOp2_5 S2 r = .ok (r, S2) := (rfl)
def k_fOp2_4 (sem : Sem2) (S2 : SS) (ra : MV) : MV → M (MV × SS) := fun rb => thenK (sem ra rb) (k_fOp2_5 S2)
@[simp] theorem k_fOp2_4_ok (sem : Sem2) (S2 : SS) (ra : MV) {rb : MV} : k_fOp2_4 sem S2 ra rb = thenK (sem ra rb) (k_fOp2_5 S2) := (rfl)
def k_fOp2_3 (sem : Sem2) (tb : Tk) (S2 : SS) : MV → M (MV × SS) := fun ra => thenK (tkGet tb S2) (k_fOp2_4 sem S2 ra)
@[simp] theorem k_fOp2_3_ok (sem : Sem2) (tb : Tk) (S2 : SS) {ra : MV} : k_fOp2_3 sem tb S2 ra = thenK (tkGet tb S2) (k_fOp2_4 sem S2 ra) := (rfl)
def k_fOp2_2 (sem : Sem2) (ta : Tk) : Tk × SS → M (MV × SS) := fun (tb, S2) => thenK (tkGet ta S2) (k_fOp2_3 sem tb S2)
@[simp] theorem k_fOp2_2_ok (sem : Sem2) (ta : Tk) {tb : Tk} {S2 : SS} : k_fOp2_2 sem ta (tb, S2) = thenK (tkGet ta S2) (k_fOp2_3 sem tb S2) := (rfl)
def k_fOp2_1 (sem : Sem2) (ob : FO) : Tk × SS → M (MV × SS) := fun (ta, S1) => thenK (ob S1) (k_fOp2_2 sem ta)
@[simp] theorem k_fOp2_1_ok (sem : Sem2) (ob : FO) {ta : Tk} {S1 : SS} : k_fOp2_1 sem ob (ta, S1) = thenK (ob S1) (k_fOp2_2 sem ta) := (rfl)
@[simp] theorem u_fOp2 {sem : Sem2} {oa : FO} {ob : FO} {S : SS} : fOp2 sem oa ob S = thenK (oa S) (k_fOp2_1 sem ob) := (rfl)
def k_fSh_2 (S1 : SS) : MV → M (MV × SS) := fun z => .ok (z, S1)
@[simp] theorem k_fSh_2_ok (S1 : SS) {z : MV} : k_fSh_2 S1 z = .ok (z, S1) := (rfl)
def k_fSh_1  : MV × SS → M (MV × SS) := fun (r, S1) => thenK (giveR r) (k_fSh_2 S1)
@[simp] theorem k_fSh_1_ok  {r : MV} {S1 : SS} : k_fSh_1 (r, S1) = thenK (giveR r) (k_fSh_2 S1) := (rfl)
@[simp] theorem u_fSh {f : FE} {S : SS} : fSh f S = thenK (f S) (k_fSh_1) := (rfl)
def k_oV_1  : MV × SS → M (Tk × SS) := fun (r, S1) => .ok (.val r, S1)
@[simp] theorem k_oV_1_ok  {r : MV} {S1 : SS} : k_oV_1 (r, S1) = .ok (.val r, S1) := (rfl)
@[simp] theorem u_oV {f : FE} {S : SS} : oV f S = thenK (f S) (k_oV_1) := (rfl)
def k_oP (i : Nat) (S : SS) : MV → M (Tk × SS) := fun _ => .ok (.slot i, S)
@[simp] theorem k_oP_ok {i : Nat} {S : SS} {r : MV} : k_oP i S r = .ok (.slot i, S) := (rfl)
@[simp] theorem u_oP {i : Nat} {S : SS} : oP i S = thenK (getK i S) (k_oP i S) := by
  unfold oP getK thenK k_oP
  rcases h : S[i]? with _ | ⟨_ | r⟩ <;> rfl
@[simp] theorem u_aNil {S : SS} : aNil S = .ok ([], S) := (rfl)
@[simp] theorem u_tkGet_val {S : SS} {r : MV} : tkGet (.val r) S = .ok r := (rfl)
@[simp] theorem u_tkGet_slot {S : SS} {i : Nat} : tkGet (.slot i) S = getK i S := (rfl)
@[simp] theorem u_tkGets0 {S : SS} : tkGets [] S = .ok [] := (rfl)
def k_aCons_2 (t : Tk) : List Tk × SS → M (List Tk × SS) := fun (ts, S2) => .ok (t :: ts, S2)
@[simp] theorem k_aCons_2_ok (t : Tk) {ts : List Tk} {S2 : SS} : k_aCons_2 t (ts, S2) = .ok (t :: ts, S2) := (rfl)
def k_aCons_1 (f : FA) : Tk × SS → M (List Tk × SS) := fun (t, S1) => thenK (f S1) (k_aCons_2 t)
@[simp] theorem k_aCons_1_ok (f : FA) {t : Tk} {S1 : SS} : k_aCons_1 f (t, S1) = thenK (f S1) (k_aCons_2 t) := (rfl)
@[simp] theorem u_aCons {o : FO} {f : FA} {S : SS} : aCons o f S = thenK (o S) (k_aCons_1 f) := (rfl)
def k_tkGets_2 (r : MV) : List MV → M (List MV) := fun rs => .ok (r :: rs)
@[simp] theorem k_tkGets_2_ok (r : MV) {rs : List MV} : k_tkGets_2 r rs = .ok (r :: rs) := (rfl)
def k_tkGets_1 (ts : List Tk) (S : SS) : MV → M (List MV) := fun r => thenK (tkGets ts S) (k_tkGets_2 r)
@[simp] theorem k_tkGets_1_ok (ts : List Tk) (S : SS) {r : MV} : k_tkGets_1 ts S r = thenK (tkGets ts S) (k_tkGets_2 r) := (rfl)
@[simp] theorem u_tkGets {t : Tk} {ts : List Tk} {S : SS} : tkGets (t :: ts) S = thenK (tkGet t S) (k_tkGets_1 ts S) := (rfl)
def k_fUn_2 (S1 : SS) : MV → M (MV × SS) := fun z => .ok (z, S1)
@[simp] theorem k_fUn_2_ok (S1 : SS) {z : MV} : k_fUn_2 S1 z = .ok (z, S1) := (rfl)
def k_fUn_1 (gg : MV → M MV) : MV × SS → M (MV × SS) := fun (r, S1) => thenK (gg r) (k_fUn_2 S1)
@[simp] theorem k_fUn_1_ok (gg : MV → M MV) {r : MV} {S1 : SS} : k_fUn_1 gg (r, S1) = thenK (gg r) (k_fUn_2 S1) := (rfl)
@[simp] theorem u_fUn {gg : MV → M MV} {f : FE} {S : SS} : fUn gg f S = thenK (f S) (k_fUn_1 gg) := (rfl)
def k_fAndV_1 (g : FE) : MV × SS → M (MV × SS) := fun (r, S1) => match r.2 with | .bool true => g S1 | .bool false => .ok ((.sh, .bool false), S1) | _ => stk
@[simp] theorem k_fAndV_1_c0 (g : FE) {m : Md} {S1 : SS} : k_fAndV_1 g ((m, .bool true), S1) = g S1 := (rfl)
@[simp] theorem k_fAndV_1_c1 (g : FE) {m : Md} {S1 : SS} : k_fAndV_1 g ((m, .bool false), S1) = .ok ((.sh, .bool false), S1) := (rfl)
@[simp] theorem u_fAndV {f : FE} {g : FE} {S : SS} : fAndV f g S = thenK (f S) (k_fAndV_1 g) := (rfl)
def k_fOrV_1 (g : FE) : MV × SS → M (MV × SS) := fun (r, S1) => match r.2 with | .bool true => .ok ((.sh, .bool true), S1) | .bool false => g S1 | _ => stk
@[simp] theorem k_fOrV_1_c0 (g : FE) {m : Md} {S1 : SS} : k_fOrV_1 g ((m, .bool false), S1) = g S1 := (rfl)
@[simp] theorem k_fOrV_1_c1 (g : FE) {m : Md} {S1 : SS} : k_fOrV_1 g ((m, .bool true), S1) = .ok ((.sh, .bool true), S1) := (rfl)
@[simp] theorem u_fOrV {f : FE} {g : FE} {S : SS} : fOrV f g S = thenK (f S) (k_fOrV_1 g) := (rfl)
def k_fNotV_1  : MV × SS → M (MV × SS) := fun (r, S1) => match r.2 with | .bool b => .ok ((.sh, .bool !b), S1) | _ => stk
@[simp] theorem k_fNotV_1_c0  {m : Md} {S1 : SS} {b : Bool} : k_fNotV_1 ((m, .bool b), S1) = .ok ((.sh, .bool !b), S1) := (rfl)
@[simp] theorem u_fNotV {f : FE} {S : SS} : fNotV f S = thenK (f S) (k_fNotV_1) := (rfl)
def k_fIf_1 (f : FE) (g : FE) : Bool × SS → M (MV × SS) := fun (b, S1) => if b then f S1 else g S1
@[simp] theorem k_fIf_1_c0 (f : FE) (g : FE) {S1 : SS} : k_fIf_1 f g (true, S1) = f S1 := (rfl)
@[simp] theorem k_fIf_1_c1 (f : FE) (g : FE) {S1 : SS} : k_fIf_1 f g (false, S1) = g S1 := (rfl)
@[simp] theorem u_fIf {t : FT} {f : FE} {g : FE} {S : SS} : fIf t f g S = thenK (t S) (k_fIf_1 f g) := (rfl)
def k_tB1_1  : MV × SS → M (Bool × SS) := fun (r, S1) => match r.2 with | .bool b => .ok (b, S1) | _ => stk
@[simp] theorem k_tB1_1_c0  {m : Md} {S1 : SS} {b : Bool} : k_tB1_1 ((m, .bool b), S1) = .ok (b, S1) := (rfl)
@[simp] theorem u_tB1 {f : FE} {S : SS} : tB1 f S = thenK (f S) (k_tB1_1) := (rfl)
def k_fAndT_1 (g : FT) : Bool × SS → M (Bool × SS) := fun (b, S1) => if b then g S1 else .ok (false, S1)
@[simp] theorem k_fAndT_1_c0 (g : FT) {S1 : SS} : k_fAndT_1 g (true, S1) = g S1 := (rfl)
@[simp] theorem k_fAndT_1_c1 (g : FT) {S1 : SS} : k_fAndT_1 g (false, S1) = .ok (false, S1) := (rfl)
@[simp] theorem u_fAndT {f : FT} {g : FT} {S : SS} : fAndT f g S = thenK (f S) (k_fAndT_1 g) := (rfl)
def k_fOrT_1 (g : FT) : Bool × SS → M (Bool × SS) := fun (b, S1) => if b then .ok (true, S1) else g S1
@[simp] theorem k_fOrT_1_c0 (g : FT) {S1 : SS} : k_fOrT_1 g (true, S1) = .ok (true, S1) := (rfl)
@[simp] theorem k_fOrT_1_c1 (g : FT) {S1 : SS} : k_fOrT_1 g (false, S1) = g S1 := (rfl)
@[simp] theorem u_fOrT {f : FT} {g : FT} {S : SS} : fOrT f g S = thenK (f S) (k_fOrT_1 g) := (rfl)
def k_fNotT_1  : Bool × SS → M (Bool × SS) := fun (b, S1) => .ok (!b, S1)
@[simp] theorem k_fNotT_1_ok  {b : Bool} {S1 : SS} : k_fNotT_1 (b, S1) = .ok (!b, S1) := (rfl)
@[simp] theorem u_fNotT {f : FT} {S : SS} : fNotT f S = thenK (f S) (k_fNotT_1) := (rfl)
def k_fChain_9 (S3 : SS) : MV → M (MV × SS) := fun z => .ok (z, S3)
@[simp] theorem k_fChain_9_ok {S3 : SS} {z : MV} : k_fChain_9 S3 z = .ok (z, S3) := (rfl)
def k_fChain_8 (sem' : Sem2) (rb2 : MV) (S3 : SS) : MV → M (MV × SS) := fun rc => thenK (sem' rb2 rc) (k_fChain_9 S3)
@[simp] theorem k_fChain_8_ok {sem' : Sem2} {rb2 : MV} {S3 : SS} {rc : MV} : k_fChain_8 sem' rb2 S3 rc = thenK (sem' rb2 rc) (k_fChain_9 S3) := (rfl)
def k_fChain_7 (sem' : Sem2) (tc : Tk) (S3 : SS) : MV → M (MV × SS) := fun rb2 => thenK (tkGet tc S3) (k_fChain_8 sem' rb2 S3)
@[simp] theorem k_fChain_7_ok {sem' : Sem2} {tc : Tk} {S3 : SS} {rb2 : MV} : k_fChain_7 sem' tc S3 rb2 = thenK (tkGet tc S3) (k_fChain_8 sem' rb2 S3) := (rfl)
def k_fChain_6 (sem' : Sem2) (tb : Tk) : Tk × SS → M (MV × SS) := fun (tc, S3) => thenK (tkGet tb S3) (k_fChain_7 sem' tc S3)
@[simp] theorem k_fChain_6_ok {sem' : Sem2} {tb tc : Tk} {S3 : SS} : k_fChain_6 sem' tb (tc, S3) = thenK (tkGet tb S3) (k_fChain_7 sem' tc S3) := (rfl)
def k_fChain_5 (sem' : Sem2) (oc : FO) (tb : Tk) (S2 : SS) : MV → M (MV × SS) := fun r => match r.2 with | .bool true => thenK (oc S2) (k_fChain_6 sem' tb) | .bool false => .ok ((.sh, .bool false), S2) | _ => stk
@[simp] theorem k_fChain_5_c0 (sem' : Sem2) (oc : FO) (tb : Tk) (S2 : SS) {m : Md} : k_fChain_5 sem' oc tb S2 (m, .bool true) = thenK (oc S2) (k_fChain_6 sem' tb) := (rfl)
@[simp] theorem k_fChain_5_c1 (sem' : Sem2) (oc : FO) (tb : Tk) (S2 : SS) {m : Md} : k_fChain_5 sem' oc tb S2 (m, .bool false) = .ok ((.sh, .bool false), S2) := (rfl)
def k_fChain_4 (sem : Sem2) (sem' : Sem2) (oc : FO) (tb : Tk) (S2 : SS) (ra : MV) : MV → M (MV × SS) := fun rb => thenK (sem ra rb) (k_fChain_5 sem' oc tb S2)
@[simp] theorem k_fChain_4_ok (sem : Sem2) (sem' : Sem2) (oc : FO) (tb : Tk) (S2 : SS) (ra : MV) {rb : MV} : k_fChain_4 sem sem' oc tb S2 ra rb = thenK (sem ra rb) (k_fChain_5 sem' oc tb S2) := (rfl)
def k_fChain_3 (sem : Sem2) (sem' : Sem2) (oc : FO) (tb : Tk) (S2 : SS) : MV → M (MV × SS) := fun ra => thenK (tkGet tb S2) (k_fChain_4 sem sem' oc tb S2 ra)
@[simp] theorem k_fChain_3_ok (sem : Sem2) (sem' : Sem2) (oc : FO) (tb : Tk) (S2 : SS) {ra : MV} : k_fChain_3 sem sem' oc tb S2 ra = thenK (tkGet tb S2) (k_fChain_4 sem sem' oc tb S2 ra) := (rfl)
def k_fChain_2 (sem : Sem2) (sem' : Sem2) (oc : FO) (ta : Tk) : Tk × SS → M (MV × SS) := fun (tb, S2) => thenK (tkGet ta S2) (k_fChain_3 sem sem' oc tb S2)
@[simp] theorem k_fChain_2_ok (sem : Sem2) (sem' : Sem2) (oc : FO) (ta : Tk) {tb : Tk} {S2 : SS} : k_fChain_2 sem sem' oc ta (tb, S2) = thenK (tkGet ta S2) (k_fChain_3 sem sem' oc tb S2) := (rfl)
def k_fChain_1 (sem : Sem2) (sem' : Sem2) (ob : FO) (oc : FO) : Tk × SS → M (MV × SS) := fun (ta, S1) => thenK (ob S1) (k_fChain_2 sem sem' oc ta)
@[simp] theorem k_fChain_1_ok (sem : Sem2) (sem' : Sem2) (ob : FO) (oc : FO) {ta : Tk} {S1 : SS} : k_fChain_1 sem sem' ob oc (ta, S1) = thenK (ob S1) (k_fChain_2 sem sem' oc ta) := (rfl)
@[simp] theorem u_fChain {sem : Sem2} {sem' : Sem2} {oa : FO} {ob : FO} {oc : FO} {S : SS} : fChain sem sem' oa ob oc S = thenK (oa S) (k_fChain_1 sem sem' ob oc) := (rfl)
@[simp] theorem u_grab0 {S : SS} : grab [] S = .ok ([], S) := (rfl)
def k_grabV_1 (r : MV) : List MV × SS → M (List MV × SS) := fun (rs, S1) => .ok (r :: rs, S1)
@[simp] theorem k_grabV_1_ok (r : MV) {rs : List MV} {S1 : SS} : k_grabV_1 r (rs, S1) = .ok (r :: rs, S1) := (rfl)
@[simp] theorem u_grabV {r : MV} {ts : List Tk} {S : SS} : grab (.val r :: ts) S = thenK (grab ts S) (k_grabV_1 r) := (rfl)
def k_grabS (i : Nat) (ts : List Tk) (S : SS) : MV → M (List MV × SS) := fun r => thenK (grab ts (S.set i none)) (k_grabV_1 r)
@[simp] theorem k_grabS_ok {i : Nat} {ts : List Tk} {S : SS} {r : MV} : k_grabS i ts S r = thenK (grab ts (S.set i none)) (k_grabV_1 r) := (rfl)
@[simp] theorem u_grab_slot {i : Nat} {ts : List Tk} {S : SS} : grab (.slot i :: ts) S = thenK (getK i S) (k_grabS i ts S) := by
  show (match S[i]? with | some (some r) => _ | _ => _) = _
  unfold getK thenK k_grabS
  rcases h : S[i]? with _ | ⟨_ | r⟩ <;> rfl
@[simp] theorem u_putB0 {ts : List Tk} {S : SS} : putB ts [] [] S = .ok S := (rfl)
def k_putB (ts : List Tk) (io : List Nat) (f : MV) (fs : List MV) (S : SS) : Option Tk → M SS := fun o => match o with
  | some (.slot i) => if i < S.length then putB ts io fs (S.set i (some f)) else stk
  | some (.val _) => putB ts io fs S
  | none => stk
@[simp] theorem k_putB_slot {ts : List Tk} {io : List Nat} {f : MV} {fs : List MV} {S : SS} {i : Nat} : k_putB ts io f fs S (some (.slot i)) = if i < S.length then putB ts io fs (S.set i (some f)) else stk := (rfl)
@[simp] theorem k_putB_val {ts : List Tk} {io : List Nat} {f : MV} {fs : List MV} {S : SS} {r : MV} : k_putB ts io f fs S (some (.val r)) = putB ts io fs S := (rfl)
@[simp] theorem u_putB1 {ts : List Tk} {io : List Nat} {f : MV} {fs : List MV} {S : SS} {j : Nat} : putB ts (j :: io) (f :: fs) S = k_putB ts io f fs S ts[j]? := (rfl)
def k_fCall_4 (r : MV) : SS → M (MV × SS) := fun S3 => .ok (r, S3)
@[simp] theorem k_fCall_4_ok {r : MV} {S3 : SS} : k_fCall_4 r S3 = .ok (r, S3) := (rfl)
def k_fCall_3 (io : List Nat) (ts : List Tk) (S2 : SS) : MV × List MV → M (MV × SS) := fun (r, fs) => thenK (putB ts io fs S2) (k_fCall_4 r)
@[simp] theorem k_fCall_3_ok {io : List Nat} {ts : List Tk} {S2 : SS} {r : MV} {fs : List MV} : k_fCall_3 io ts S2 (r, fs) = thenK (putB ts io fs S2) (k_fCall_4 r) := (rfl)
def k_fCall_2 (n : Nat) (io : List Nat) (sem : SemF) (ts : List Tk) : List MV × SS → M (MV × SS) := fun (rs, S2) => if rs.length = n then thenK (sem rs) (k_fCall_3 io ts S2) else stk
@[simp] theorem k_fCall_2_ok {n : Nat} {io : List Nat} {sem : SemF} {ts : List Tk} {rs : List MV} {S2 : SS} : k_fCall_2 n io sem ts (rs, S2) = if rs.length = n then thenK (sem rs) (k_fCall_3 io ts S2) else stk := (rfl)
def k_fCall_1 (n : Nat) (io : List Nat) (sem : SemF) : List Tk × SS → M (MV × SS) := fun (ts, S1) => thenK (grab ts S1) (k_fCall_2 n io sem ts)
@[simp] theorem k_fCall_1_ok {n : Nat} {io : List Nat} {sem : SemF} {ts : List Tk} {S1 : SS} : k_fCall_1 n io sem (ts, S1) = thenK (grab ts S1) (k_fCall_2 n io sem ts) := (rfl)
@[simp] theorem u_fCall {n : Nat} {io : List Nat} {sem : SemF} {f : FA} {S : SS} : fCall n io sem f S = thenK (f S) (k_fCall_1 n io sem) := (rfl)
def k_fiSeq_2 (S1 : SS) : MV → M (List D × SS) := fun z => match z.2 with | .list ds => .ok (ds, S1) | .tuple ds => .ok (ds, S1) | .str x => .ok (signs x, S1) | _ => stk
@[simp] theorem k_fiSeq_2_c0 (S1 : SS) {m : Md} {ds : List D} : k_fiSeq_2 S1 (m, .list ds) = .ok (ds, S1) := (rfl)
@[simp] theorem k_fiSeq_2_c1 (S1 : SS) {m : Md} {ds : List D} : k_fiSeq_2 S1 (m, .tuple ds) = .ok (ds, S1) := (rfl)
@[simp] theorem k_fiSeq_2_c2 (S1 : SS) {m : Md} {x : Str} : k_fiSeq_2 S1 (m, .str x) = .ok (signs x, S1) := (rfl)
def k_fiSeq_1  : MV × SS → M (List D × SS) := fun (r, S1) => thenK (giveR r) (k_fiSeq_2 S1)
@[simp] theorem k_fiSeq_1_ok  {r : MV} {S1 : SS} : k_fiSeq_1 (r, S1) = thenK (giveR r) (k_fiSeq_2 S1) := (rfl)
@[simp] theorem u_fiSeq {f : FE} {S : SS} : fiSeq f S = thenK (f S) (k_fiSeq_1) := (rfl)
def k_fiA_3 (S1 : SS) : List D → M (List D × SS) := fun ds => .ok (ds, S1)
@[simp] theorem k_fiA_3_ok (S1 : SS) {ds : List D} : k_fiA_3 S1 ds = .ok (ds, S1) := (rfl)
def k_fiA_2 (sem : List MV → M (List D)) (S1 : SS) : List MV → M (List D × SS) := fun rs => thenK (sem rs) (k_fiA_3 S1)
@[simp] theorem k_fiA_2_ok (sem : List MV → M (List D)) (S1 : SS) {rs : List MV} : k_fiA_2 sem S1 rs = thenK (sem rs) (k_fiA_3 S1) := (rfl)
def k_fiA_1 (sem : List MV → M (List D)) : List Tk × SS → M (List D × SS) := fun (ts, S1) => thenK (tkGets ts S1) (k_fiA_2 sem S1)
@[simp] theorem k_fiA_1_ok (sem : List MV → M (List D)) {ts : List Tk} {S1 : SS} : k_fiA_1 sem (ts, S1) = thenK (tkGets ts S1) (k_fiA_2 sem S1) := (rfl)
@[simp] theorem u_fiA {sem : List MV → M (List D)} {f : FA} {S : SS} : fiA sem f S = thenK (f S) (k_fiA_1 sem) := (rfl)
@[simp] theorem u_ftYes {S : SS} : ftYes S = .ok (true, S) := (rfl)
def k_lst : MV → M (List D) := fun r => match r with
  | (.ow .sh, .list ds) => .ok ds
  | _ => stk
@[simp] theorem k_lst_ok {ds : List D} : k_lst (.ow .sh, .list ds) = .ok ds := (rfl)
@[simp] theorem u_lstAt {S : SS} {i : Nat} : lstAt S i = thenK (getK i S) k_lst := by
  unfold lstAt getK thenK k_lst
  rcases h : S[i]? with _ | ⟨_ | ⟨m, d⟩⟩
  · rfl
  · rfl
  · rcases m with _ | _ | _ | m
    · rfl
    · rfl
    · rfl
    · cases m <;> cases d <;> rfl
def k_fMt_5 (i : Nat) (S1 : SS) : List D × MV → M (MV × SS) := fun (ds2, r) => .ok (r, S1.set i (some (.ow .sh, .list ds2)))
@[simp] theorem k_fMt_5_ok (i : Nat) (S1 : SS) {ds2 : List D} {r : MV} : k_fMt_5 i S1 (ds2, r) = .ok (r, S1.set i (some (.ow .sh, .list ds2))) := (rfl)
def k_fMt_4 (i : Nat) (sem : SemM) (S1 : SS) (ds : List D) : List MV → M (MV × SS) := fun rs => thenK (sem ds rs) (k_fMt_5 i S1)
@[simp] theorem k_fMt_4_ok (i : Nat) (sem : SemM) (S1 : SS) (ds : List D) {rs : List MV} : k_fMt_4 i sem S1 ds rs = thenK (sem ds rs) (k_fMt_5 i S1) := (rfl)
def k_fMt_3 (i : Nat) (sem : SemM) (ts : List Tk) (S1 : SS) : List D → M (MV × SS) := fun ds => thenK (tkGets ts S1) (k_fMt_4 i sem S1 ds)
@[simp] theorem k_fMt_3_ok (i : Nat) (sem : SemM) (ts : List Tk) (S1 : SS) {ds : List D} : k_fMt_3 i sem ts S1 ds = thenK (tkGets ts S1) (k_fMt_4 i sem S1 ds) := (rfl)
def k_fMt_2 (i : Nat) (sem : SemM) : List Tk × SS → M (MV × SS) := fun (ts, S1) => thenK (lstAt S1 i) (k_fMt_3 i sem ts S1)
@[simp] theorem k_fMt_2_ok (i : Nat) (sem : SemM) {ts : List Tk} {S1 : SS} : k_fMt_2 i sem (ts, S1) = thenK (lstAt S1 i) (k_fMt_3 i sem ts S1) := (rfl)
def k_fMt_1 (i : Nat) (sem : SemM) (f : FA) (S : SS) : List D → M (MV × SS) := fun acc => thenK (f S) (k_fMt_2 i sem)
@[simp] theorem k_fMt_1_ok (i : Nat) (sem : SemM) (f : FA) (S : SS) {acc : List D} : k_fMt_1 i sem f S acc = thenK (f S) (k_fMt_2 i sem) := (rfl)
@[simp] theorem u_fMt {i : Nat} {sem : SemM} {f : FA} {S : SS} : fMt i sem f S = thenK (lstAt S i) (k_fMt_1 i sem f S) := (rfl)
def k_bx : MV → M (D × List D) := fun r => match r with
  | (.bx, .list (e :: ds)) => .ok (e, ds)
  | _ => stk
@[simp] theorem k_bx_ok {e : D} {ds : List D} : k_bx (.bx, .list (e :: ds)) = .ok (e, ds) := (rfl)
@[simp] theorem u_bxAt {S : SS} {i : Nat} : bxAt S i = thenK (getK i S) k_bx := by
  unfold bxAt getK thenK k_bx
  rcases h : S[i]? with _ | ⟨_ | ⟨m, d⟩⟩
  · rfl
  · rfl
  · rcases m with _ | _ | _ | m
    · rfl
    · rfl
    · cases d with
      | list xs => cases xs <;> rfl
      | _ => rfl
    · rfl
def k_gIxB_2 (i k : Nat) (S : SS) (z : MV) : D × List D → M SS := fun (e, ds) => if k < ds.length then .ok (S.set i (some (.bx, .list (e :: ds.set k z.2)))) else stk
@[simp] theorem k_gIxB_2_ok {i k : Nat} {S : SS} {z : MV} {e : D} {ds : List D} : k_gIxB_2 i k S z (e, ds) = if k < ds.length then .ok (S.set i (some (.bx, .list (e :: ds.set k z.2)))) else stk := (rfl)
def k_gIxB_1 (i k : Nat) (S : SS) : MV → M SS := fun z => thenK (bxAt S i) (k_gIxB_2 i k S z)
@[simp] theorem k_gIxB_1_ok {i k : Nat} {S : SS} {z : MV} : k_gIxB_1 i k S z = thenK (bxAt S i) (k_gIxB_2 i k S z) := (rfl)
@[simp] theorem u_gIxB {i k : Nat} {r : MV} {S : SS} : gIxB i k r S = thenK (giveR r) (k_gIxB_1 i k S) := (rfl)
@[simp] theorem u_fPN {S : SS} : fPN S = .ok (none, S) := (rfl)
def k_fPS_1  : MV × SS → M (Option Int × SS) := fun (r, S1) => match r.2 with | .int i => .ok (some i, S1) | _ => stk
@[simp] theorem k_fPS_1_c0  {m : Md} {i : Int} {S1 : SS} : k_fPS_1 ((m, .int i), S1) = .ok (some i, S1) := (rfl)
@[simp] theorem u_fPS {f : FE} {S : SS} : fPS f S = thenK (f S) (k_fPS_1) := (rfl)
def k_fSl_5 (S3 : SS) : MV → M (MV × SS) := fun z => .ok (z, S3)
@[simp] theorem k_fSl_5_ok (S3 : SS) {z : MV} : k_fSl_5 S3 z = .ok (z, S3) := (rfl)
def k_fSl_4 (a : Option Int) (h2 : Option Int) (S3 : SS) : MV → M (MV × SS) := fun r => thenK (cutOf r a h2) (k_fSl_5 S3)
@[simp] theorem k_fSl_4_ok (a : Option Int) (h2 : Option Int) (S3 : SS) {r : MV} : k_fSl_4 a h2 S3 r = thenK (cutOf r a h2) (k_fSl_5 S3) := (rfl)
def k_fSl_3 (t : Tk) (a : Option Int) : Option Int × SS → M (MV × SS) := fun (h2, S3) => thenK (tkGet t S3) (k_fSl_4 a h2 S3)
@[simp] theorem k_fSl_3_ok (t : Tk) (a : Option Int) {h2 : Option Int} {S3 : SS} : k_fSl_3 t a (h2, S3) = thenK (tkGet t S3) (k_fSl_4 a h2 S3) := (rfl)
def k_fSl_2 (h : FPt) (t : Tk) : Option Int × SS → M (MV × SS) := fun (a, S2) => thenK (h S2) (k_fSl_3 t a)
@[simp] theorem k_fSl_2_ok (h : FPt) (t : Tk) {a : Option Int} {S2 : SS} : k_fSl_2 h t (a, S2) = thenK (h S2) (k_fSl_3 t a) := (rfl)
def k_fSl_1 (l : FPt) (h : FPt) : Tk × SS → M (MV × SS) := fun (t, S1) => thenK (l S1) (k_fSl_2 h t)
@[simp] theorem k_fSl_1_ok (l : FPt) (h : FPt) {t : Tk} {S1 : SS} : k_fSl_1 l h (t, S1) = thenK (l S1) (k_fSl_2 h t) := (rfl)
@[simp] theorem u_fSl {o : FO} {l : FPt} {h : FPt} {S : SS} : fSl o l h S = thenK (o S) (k_fSl_1 l h) := (rfl)
def k_fRev_3 (S1 : SS) : MV → M (MV × SS) := fun z => .ok (z, S1)
@[simp] theorem k_fRev_3_ok (S1 : SS) {z : MV} : k_fRev_3 S1 z = .ok (z, S1) := (rfl)
def k_fRev_2 (S1 : SS) : MV → M (MV × SS) := fun r => thenK (revOf r) (k_fRev_3 S1)
@[simp] theorem k_fRev_2_ok (S1 : SS) {r : MV} : k_fRev_2 S1 r = thenK (revOf r) (k_fRev_3 S1) := (rfl)
def k_fRev_1  : Tk × SS → M (MV × SS) := fun (t, S1) => thenK (tkGet t S1) (k_fRev_2 S1)
@[simp] theorem k_fRev_1_ok  {t : Tk} {S1 : SS} : k_fRev_1 (t, S1) = thenK (tkGet t S1) (k_fRev_2 S1) := (rfl)
@[simp] theorem u_fRev {o : FO} {S : SS} : fRev o S = thenK (o S) (k_fRev_1) := (rfl)
def k_fLc_2 (vs : List Nat) (S1 : SS) : List D × SS → M (MV × SS) := fun (acc, S2) => .ok ((.ow .sh, .list acc), mrg (inP vs) 0 S1 S2)
@[simp] theorem k_fLc_2_ok {vs : List Nat} {S1 S2 : SS} {acc : List D} : k_fLc_2 vs S1 (acc, S2) = .ok ((.ow .sh, .list acc), mrg (inP vs) 0 S1 S2) := (rfl)
def k_fLc_1 (n : Nat) (vs : List Nat) (g : FG) (tt : FT) (te : FE) : List D × SS → M (MV × SS) := fun (ds, S1) => if S1.length = n then thenK (lcD vs g tt te ds [] (wipeS vs S1)) (k_fLc_2 vs S1) else stk
@[simp] theorem k_fLc_1_ok {n : Nat} {vs : List Nat} {g : FG} {tt : FT} {te : FE} {ds : List D} {S1 : SS} : k_fLc_1 n vs g tt te (ds, S1) = if S1.length = n then thenK (lcD vs g tt te ds [] (wipeS vs S1)) (k_fLc_2 vs S1) else stk := (rfl)
@[simp] theorem u_fLc {n : Nat} {vs : List Nat} {fi : FI} {g : FG} {tt : FT} {te : FE} {S : SS} : fLc n vs fi g tt te S = thenK (fi S) (k_fLc_1 n vs g tt te) := (rfl)
def k_fGB_2 (vs : List Nat) (S1 : SS) : Bool × SS → M (MV × SS) := fun (bb, S2) => .ok ((.sh, .bool bb), mrg (inP vs) 0 S1 S2)
@[simp] theorem k_fGB_2_ok {vs : List Nat} {S1 S2 : SS} {bb : Bool} : k_fGB_2 vs S1 (bb, S2) = .ok ((.sh, .bool bb), mrg (inP vs) 0 S1 S2) := (rfl)
def k_fGB_1 (st : Bool) (n : Nat) (vs : List Nat) (g : FG) (tt : FT) (te : FE) : List D × SS → M (MV × SS) := fun (ds, S1) => if S1.length = n then thenK (gbD st vs g tt te ds (wipeS vs S1)) (k_fGB_2 vs S1) else stk
@[simp] theorem k_fGB_1_ok {st : Bool} {n : Nat} {vs : List Nat} {g : FG} {tt : FT} {te : FE} {ds : List D} {S1 : SS} : k_fGB_1 st n vs g tt te (ds, S1) = if S1.length = n then thenK (gbD st vs g tt te ds (wipeS vs S1)) (k_fGB_2 vs S1) else stk := (rfl)
@[simp] theorem u_fGB {st : Bool} {n : Nat} {vs : List Nat} {fi : FI} {g : FG} {tt : FT} {te : FE} {S : SS} : fGB st n vs fi g tt te S = thenK (fi S) (k_fGB_1 st n vs g tt te) := (rfl)
def k_fGS_2 (vs : List Nat) (S1 : SS) : Int × SS → M (MV × SS) := fun (ii, S2) => .ok ((.sh, .int ii), mrg (inP vs) 0 S1 S2)
@[simp] theorem k_fGS_2_ok {vs : List Nat} {S1 S2 : SS} {ii : Int} : k_fGS_2 vs S1 (ii, S2) = .ok ((.sh, .int ii), mrg (inP vs) 0 S1 S2) := (rfl)
def k_fGS_1 (n : Nat) (vs : List Nat) (g : FG) (tt : FT) (te : FE) : List D × SS → M (MV × SS) := fun (ds, S1) => if S1.length = n then thenK (gsD vs g tt te ds 0 (wipeS vs S1)) (k_fGS_2 vs S1) else stk
@[simp] theorem k_fGS_1_ok {n : Nat} {vs : List Nat} {g : FG} {tt : FT} {te : FE} {ds : List D} {S1 : SS} : k_fGS_1 n vs g tt te (ds, S1) = if S1.length = n then thenK (gsD vs g tt te ds 0 (wipeS vs S1)) (k_fGS_2 vs S1) else stk := (rfl)
@[simp] theorem u_fGS {n : Nat} {vs : List Nat} {fi : FI} {g : FG} {tt : FT} {te : FE} {S : SS} : fGS n vs fi g tt te S = thenK (fi S) (k_fGS_1 n vs g tt te) := (rfl)
/-- one turn of a comprehension -/
def k_itD_3 (vs : List Nat) : MV × SS → M (Option MV × SS) := fun (r, S3) => .ok (some r, wipeS vs S3)
@[simp] theorem k_itD_3_ok {vs : List Nat} {r : MV} {S3 : SS} : k_itD_3 vs (r, S3) = .ok (some r, wipeS vs S3) := (rfl)
def k_itD_2 (vs : List Nat) (te : FE) : Bool × SS → M (Option MV × SS) := fun (b, S2) => if b then thenK (te S2) (k_itD_3 vs) else .ok (none, wipeS vs S2)
@[simp] theorem k_itD_2_t {vs : List Nat} {te : FE} {S2 : SS} : k_itD_2 vs te (true, S2) = thenK (te S2) (k_itD_3 vs) := (rfl)
@[simp] theorem k_itD_2_f {vs : List Nat} {te : FE} {S2 : SS} : k_itD_2 vs te (false, S2) = .ok (none, wipeS vs S2) := (rfl)
def k_itD_1 (vs : List Nat) (tt : FT) (te : FE) : SS → M (Option MV × SS) := fun S1 => thenK (tt S1) (k_itD_2 vs te)
@[simp] theorem k_itD_1_ok {vs : List Nat} {tt : FT} {te : FE} {S1 : SS} : k_itD_1 vs tt te S1 = thenK (tt S1) (k_itD_2 vs te) := (rfl)
def itD (vs : List Nat) (g : FG) (tt : FT) (te : FE) (d : D) : SS → M (Option MV × SS) := fun S => thenK (g (.sh, d) S) (k_itD_1 vs tt te)
@[simp] theorem u_itD {vs : List Nat} {g : FG} {tt : FT} {te : FE} {d : D} {S : SS} : itD vs g tt te d S = thenK (g (.sh, d) S) (k_itD_1 vs tt te) := (rfl)
def k_runLaw : Fl × SS → M MV := fun (fl, _) => flR fl
@[simp] theorem k_runLaw_ok {fl : Fl} {S : SS} : k_runLaw (fl, S) = flR fl := (rfl)
@[simp] theorem u_runLaw {m : Nat} {f : FS} {ns : List Int} : runLaw m f ns = thenK (f (none :: some (.bx, boxD ns) :: List.replicate m none)) k_runLaw := (rfl)
def k_fMvB_4 (S2 : SS) : MV → M (MV × SS) := fun z => .ok (z, S2)
@[simp] theorem k_fMvB_4_ok {S2 : SS} {z : MV} : k_fMvB_4 S2 z = .ok (z, S2) := (rfl)
def k_fMvB_3 (sem : SemN) (S2 : SS) (r : MV) : List MV → M (MV × SS) := fun rs => thenK (sem (r :: rs)) (k_fMvB_4 S2)
@[simp] theorem k_fMvB_3_ok {sem : SemN} {S2 : SS} {r : MV} {rs : List MV} : k_fMvB_3 sem S2 r rs = thenK (sem (r :: rs)) (k_fMvB_4 S2) := (rfl)
def k_fMvB_2 (sem : SemN) (ts : List Tk) (S2 : SS) : MV → M (MV × SS) := fun r => thenK (tkGets ts S2) (k_fMvB_3 sem S2 r)
@[simp] theorem k_fMvB_2_ok {sem : SemN} {ts : List Tk} {S2 : SS} {r : MV} : k_fMvB_2 sem ts S2 r = thenK (tkGets ts S2) (k_fMvB_3 sem S2 r) := (rfl)
def k_fMvB (sem : SemN) (t : Tk) : List Tk × SS → M (MV × SS) := fun (ts, S2) => thenK (tkGet t S2) (k_fMvB_2 sem ts S2)
@[simp] theorem k_fMvB_ok {sem : SemN} {t : Tk} {ts : List Tk} {S2 : SS} : k_fMvB sem t (ts, S2) = thenK (tkGet t S2) (k_fMvB_2 sem ts S2) := (rfl)
def k_fMv_2 (T : String) (sem : SemN) (f : FA) (t : Tk) (S1 : SS) : MV → M (MV × SS) := fun q => if kindOk T q.2 then thenK (f S1) (k_fMvB sem t) else stk
@[simp] theorem k_fMv_2_ok (T : String) (sem : SemN) (f : FA) (t : Tk) (S1 : SS) {q : MV} : k_fMv_2 T sem f t S1 q = if kindOk T q.2 then thenK (f S1) (k_fMvB sem t) else stk := (rfl)
def k_fMv_1 (T : String) (sem : SemN) (f : FA) : Tk × SS → M (MV × SS) := fun (t, S1) => thenK (tkGet t S1) (k_fMv_2 T sem f t S1)
@[simp] theorem k_fMv_1_ok (T : String) (sem : SemN) (f : FA) {t : Tk} {S1 : SS} : k_fMv_1 T sem f (t, S1) = thenK (tkGet t S1) (k_fMv_2 T sem f t S1) := (rfl)
@[simp] theorem u_fMv {T : String} {sem : SemN} {o : FO} {f : FA} {S : SS} : fMv T sem o f S = thenK (o S) (k_fMv_1 T sem f) := (rfl)
/-! numbers -/
def MuOk (i j : Int) : Prop := (Builtin.Int.intBits i : Int) + (Builtin.Int.intBits j : Int) ≤ 134217728
def DvOk (j : Int) : Prop := j ≠ 0 ∧ j.natAbs.log2 < 9000
section
variable {m n : Md} {i j : Int}
@[simp] theorem mul_ok (h : MuOk i j) : semMul (m, .int i) (n, .int j) = .ok (.sh, .int (i * j)) := if_pos h
@[simp] theorem div_ok (h : DvOk j) : semFdiv (m, .int i) (n, .int j) = .ok (.sh, .int (i.fdiv j)) := if_pos (decide_eq_true (p := j ≠ 0 ∧ j.natAbs.log2 < 9000) h)
@[simp] theorem mod_ok (h : 0 < j) : semMod (m, .int i) (n, .int j) = .ok (.sh, .int (i % j)) := if_pos (decide_eq_true h)
@[simp] theorem add_ok : semAdd (m, .int i) (n, .int j) = .ok (.sh, .int (i + j)) := (rfl)
@[simp] theorem iadd_ok : semIAdd (m, .int i) (n, .int j) = .ok (.sh, .int (i + j)) := (rfl)
@[simp] theorem sub_ok : semSub (m, .int i) (n, .int j) = .ok (.sh, .int (i - j)) := (rfl)
@[simp] theorem gt_ok : semGtI (m, .int i) (n, .int j) = .ok (.sh, .bool (decide (j < i))) := (rfl)
@[simp] theorem ge_ok : semGeI (m, .int i) (n, .int j) = .ok (.sh, .bool (decide (j ≤ i))) := (rfl)
@[simp] theorem le_ok : semLeI (m, .int i) (n, .int j) = .ok (.sh, .bool (decide (i ≤ j))) := (rfl)
@[simp] theorem lt_ok : semLt (m, .int i) (n, .int j) = .ok (.sh, .bool (decide (i < j))) := (rfl)
@[simp] theorem neg_ok : semNeg (m, .int i) = .ok (.sh, .int (-i)) := (rfl)
@[simp] theorem gcd_ok : semGcd [(m, .int i), (n, .int j)] = .ok (.sh, .int (Nat.gcd i.natAbs j.natAbs : Nat)) := (rfl)
@[simp] theorem abs_ok : semAbs [(m, .int i)] = .ok (.sh, .int (if i < 0 then -i else i)) := (rfl)
@[simp] theorem int_ok : semInt1 [(m, .int i)] = .ok (.sh, .int i) := (rfl)
@[simp] theorem min2_ok : semMin2 [(m, .int i), (n, .int j)] = .ok (.sh, .int (min i j)) := by
  have : min i j = if j < i then j else i := by split <;> omega
  rw [this]; rfl
@[simp] theorem max2_ok : semMax2 [(m, .int i), (n, .int j)] = .ok (.sh, .int (max i j)) := by
  have : max i j = if j > i then j else i := by split <;> omega
  rw [this]; rfl
@[simp] theorem give_int : giveR (m, .int i) = .ok (.sh, .int i) := by
  show (if m.gives = true then Except.ok (Md.sh, PyData.int i) else if flatD (.int i) = true then Except.ok (Md.sh, PyData.int i) else stk) = _
  split <;> rfl
@[simp] theorem give_sh {d : D} : giveR (.sh, d) = .ok (.sh, d) := (rfl)
@[simp] theorem give_ow {d : D} : giveR (.ow .sh, d) = .ok (.sh, d) := (rfl)
end
/-! a[i] -/
@[simp] theorem ix0 {m : Md} {a : D} {l : List D} : semIx (.sh, .tuple (a :: l)) (m, .int 0) = .ok (.sh, a) := by
  unfold semIx itemOf
  simp [L2.atI, L2.ixN]
@[simp] theorem ix1 {m : Md} {a b : D} {l : List D} : semIx (.sh, .tuple (a :: b :: l)) (m, .int 1) = .ok (.sh, b) := by
  unfold semIx itemOf
  have : (1 : Int) < (l.length : Int) + 1 + 1 := by omega
  simp [L2.atI, L2.ixN, this]
theorem atI_nat {α : Type} {l : List α} {i : Nat} : L2.atI l (i : Int) = l[i]? := by
  unfold L2.atI L2.ixN
  rw [if_pos (by omega)]
  by_cases h : i < l.length
  · rw [if_pos (by omega)]; simp
  · rw [if_neg (by omega)]; simp; omega
theorem ix_tup {m : Md} {l : List D} {i : Nat} (h : i < l.length) : semIx (.sh, .tuple l) (m, .int i) = .ok (.sh, l[i]) := by
  unfold semIx itemOf
  simp only [atI_nat]
  rw [List.getElem?_eq_getElem h]
theorem ix_lst {m : Md} {l : List D} {i : Nat} (h : i < l.length) : semIx (.sh, .list l) (m, .int i) = .ok (.sh, l[i]) := by
  unfold semIx itemOf
  simp only [atI_nat]
  rw [List.getElem?_eq_getElem h]
theorem ix_ow {m : Md} {l : List D} {i : Nat} (h : i < l.length) : semIx (.ow .sh, .list l) (m, .int i) = .ok (.sh, l[i]) := by
  unfold semIx itemOf
  simp only [atI_nat]
  rw [List.getElem?_eq_getElem h]
theorem ix_tup1 {m : Md} {l : List D} {i : Nat} (h : i + 1 < l.length) : semIx (.sh, .tuple l) (m, .int ((i : Int) + 1)) = .ok (.sh, l[i + 1]) := ix_tup (i := i + 1) h
theorem ix_lst1 {m : Md} {l : List D} {i : Nat} (h : i + 1 < l.length) : semIx (.sh, .list l) (m, .int ((i : Int) + 1)) = .ok (.sh, l[i + 1]) := ix_lst (i := i + 1) h
@[simp] theorem ix_box1 {m : Md} {a b c : D} : semIx (.bx, .list [a, b, c]) (m, .int 1) = .ok (.sh, b) := (rfl)
@[simp] theorem ix_box2 {m : Md} {a b c : D} : semIx (.bx, .list [a, b, c]) (m, .int 2) = .ok (.sh, c) := (rfl)
/-! displays -/
theorem small_line {n : Nat} (h : n ≤ 1000000) : n ≤ sizeLine := by
  have : 1000000 ≤ sizeLine := by decide
  omega
theorem lt_line {n : Nat} (h : n < 1000000) : n < sizeLine := by
  have : 1000000 ≤ sizeLine := by decide
  omega
@[simp] theorem tup0_ok : semTup [] = .ok (.sh, .tuple []) := (rfl)
@[simp] theorem tup1_ok {a : D} : semTup [(.sh, a)] = .ok (.sh, .tuple [a]) := if_pos (e := (stk : M MV)) (show 1 ≤ sizeLine by decide)
@[simp] theorem tup2_ok {a b : D} : semTup [(.sh, a), (.sh, b)] = .ok (.sh, .tuple [a, b]) := if_pos (e := (stk : M MV)) (show 2 ≤ sizeLine by decide)
@[simp] theorem tup3_ok {a b c : D} : semTup [(.sh, a), (.sh, b), (.sh, c)] = .ok (.sh, .tuple [a, b, c]) := if_pos (e := (stk : M MV)) (show 3 ≤ sizeLine by decide)
@[simp] theorem tup4_ok {a b c d : D} : semTup [(.sh, a), (.sh, b), (.sh, c), (.sh, d)] = .ok (.sh, .tuple [a, b, c, d]) := if_pos (e := (stk : M MV)) (show 4 ≤ sizeLine by decide)
theorem allSh_map (ds : List D) : allSh (ds.map fun d => (.sh, d)) = .ok ds := by
  induction ds with
  | nil => rfl
  | cons d ds ih =>
    show (allSh (ds.map fun d => (.sh, d)) >>= _) = _
    rw [ih]; rfl
theorem lst_ok {ds : List D} {rs : List MV} (e : rs = ds.map fun d => (.sh, d)) (h : ds.length ≤ 1000000) : semLst rs = .ok (.ow .sh, .list ds) := by
  subst e
  show (allSh (ds.map fun d => (.sh, d)) >>= _) = _
  rw [allSh_map, ex_bind, if_pos (small_line h)]; rfl
@[simp] theorem lst0_ok : semLst [] = .ok (.ow .sh, .list []) := (rfl)
@[simp] theorem lst1_ok {a : D} : semLst [(.sh, a)] = .ok (.ow .sh, .list [a]) := if_pos (e := (stk : M MV)) (show 1 ≤ sizeLine by decide)
@[simp] theorem lst2_ok {a b : D} : semLst [(.sh, a), (.sh, b)] = .ok (.ow .sh, .list [a, b]) := if_pos (e := (stk : M MV)) (show 2 ≤ sizeLine by decide)
@[simp] theorem lst3_ok {a b c : D} : semLst [(.sh, a), (.sh, b), (.sh, c)] = .ok (.ow .sh, .list [a, b, c]) := if_pos (e := (stk : M MV)) (show 3 ≤ sizeLine by decide)
@[simp] theorem len_tup {m : Md} {ds : List D} : semLen [(m, .tuple ds)] = .ok (.sh, .int ds.length) := (rfl)
@[simp] theorem len_lst {m : Md} {ds : List D} : semLen [(m, .list ds)] = .ok (.sh, .int ds.length) := (rfl)
@[simp] theorem isT_ok {T : PT5} {m : Md} {d : D} : semIsT T (m, d) = .ok (.sh, .bool (T.is d)) := (rfl)
@[simp] theorem lst4_ok {a b c d : D} : semLst [(.sh, a), (.sh, b), (.sh, c), (.sh, d)] = .ok (.ow .sh, .list [a, b, c, d]) := if_pos (e := (stk : M MV)) (show 4 ≤ sizeLine by decide)
@[simp] theorem lst5_ok {a b c d e : D} : semLst [(.sh, a), (.sh, b), (.sh, c), (.sh, d), (.sh, e)] = .ok (.ow .sh, .list [a, b, c, d, e]) := if_pos (e := (stk : M MV)) (show 5 ≤ sizeLine by decide)
@[simp] theorem lst6_ok {a b c d e f : D} : semLst [(.sh, a), (.sh, b), (.sh, c), (.sh, d), (.sh, e), (.sh, f)] = .ok (.ow .sh, .list [a, b, c, d, e, f]) := if_pos (e := (stk : M MV)) (show 6 ≤ sizeLine by decide)
@[simp] theorem lst7_ok {a b c d e f g : D} : semLst [(.sh, a), (.sh, b), (.sh, c), (.sh, d), (.sh, e), (.sh, f), (.sh, g)] = .ok (.ow .sh, .list [a, b, c, d, e, f, g]) := if_pos (e := (stk : M MV)) (show 7 ≤ sizeLine by decide)
@[simp] theorem lst8_ok {a b c d e f g h : D} : semLst [(.sh, a), (.sh, b), (.sh, c), (.sh, d), (.sh, e), (.sh, f), (.sh, g), (.sh, h)] = .ok (.ow .sh, .list [a, b, c, d, e, f, g, h]) := if_pos (e := (stk : M MV)) (show 8 ≤ sizeLine by decide)
@[simp] theorem lst9_ok {a b c d e f g h i : D} : semLst [(.sh, a), (.sh, b), (.sh, c), (.sh, d), (.sh, e), (.sh, f), (.sh, g), (.sh, h), (.sh, i)] = .ok (.ow .sh, .list [a, b, c, d, e, f, g, h, i]) := if_pos (e := (stk : M MV)) (show 9 ≤ sizeLine by decide)
@[simp] theorem lst10_ok {a b c d e f g h i j : D} : semLst [(.sh, a), (.sh, b), (.sh, c), (.sh, d), (.sh, e), (.sh, f), (.sh, g), (.sh, h), (.sh, i), (.sh, j)] = .ok (.ow .sh, .list [a, b, c, d, e, f, g, h, i, j]) := if_pos (e := (stk : M MV)) (show 10 ≤ sizeLine by decide)
@[simp] theorem lst11_ok {a b c d e f g h i j k : D} : semLst [(.sh, a), (.sh, b), (.sh, c), (.sh, d), (.sh, e), (.sh, f), (.sh, g), (.sh, h), (.sh, i), (.sh, j), (.sh, k)] = .ok (.ow .sh, .list [a, b, c, d, e, f, g, h, i, j, k]) := if_pos (e := (stk : M MV)) (show 11 ≤ sizeLine by decide)
@[simp] theorem lst12_ok {a b c d e f g h i j k l : D} : semLst [(.sh, a), (.sh, b), (.sh, c), (.sh, d), (.sh, e), (.sh, f), (.sh, g), (.sh, h), (.sh, i), (.sh, j), (.sh, k), (.sh, l)] = .ok (.ow .sh, .list [a, b, c, d, e, f, g, h, i, j, k, l]) := if_pos (e := (stk : M MV)) (show 12 ≤ sizeLine by decide)
@[simp] theorem lst13_ok {a b c d e f g h i j k l m : D} : semLst [(.sh, a), (.sh, b), (.sh, c), (.sh, d), (.sh, e), (.sh, f), (.sh, g), (.sh, h), (.sh, i), (.sh, j), (.sh, k), (.sh, l), (.sh, m)] = .ok (.ow .sh, .list [a, b, c, d, e, f, g, h, i, j, k, l, m]) := if_pos (e := (stk : M MV)) (show 13 ≤ sizeLine by decide)
@[simp] theorem tup5_ok {a b c d e : D} : semTup [(.sh, a), (.sh, b), (.sh, c), (.sh, d), (.sh, e)] = .ok (.sh, .tuple [a, b, c, d, e]) := if_pos (e := (stk : M MV)) (show 5 ≤ sizeLine by decide)
@[simp] theorem tup6_ok {a b c d e f : D} : semTup [(.sh, a), (.sh, b), (.sh, c), (.sh, d), (.sh, e), (.sh, f)] = .ok (.sh, .tuple [a, b, c, d, e, f]) := if_pos (e := (stk : M MV)) (show 6 ≤ sizeLine by decide)
@[simp] theorem tup7_ok {a b c d e f g : D} : semTup [(.sh, a), (.sh, b), (.sh, c), (.sh, d), (.sh, e), (.sh, f), (.sh, g)] = .ok (.sh, .tuple [a, b, c, d, e, f, g]) := if_pos (e := (stk : M MV)) (show 7 ≤ sizeLine by decide)
@[simp] theorem pow_ok {m n : Md} {i j : Int} (h : 0 ≤ j ∧ j ≤ 1000000 ∧ i.natAbs < 2 ^ 64) : semPow (m, .int i) (n, .int j) = .ok (.sh, .int (i ^ j.toNat)) := if_pos (decide_eq_true (p := 0 ≤ j ∧ j ≤ 1000000 ∧ i.natAbs < 2 ^ 64) h)
theorem pick_ow {l : List D} {i : Int} (h0 : 0 ≤ i) (h1 : i < l.length) : ∃ d ∈ l, ∀ m, semIx (.ow .sh, .list l) (m, .int i) = .ok (.sh, d) := by
  obtain ⟨n, rfl⟩ := Int.eq_ofNat_of_zero_le h0
  have h : n < l.length := by omega
  exact ⟨l[n], List.getElem_mem h, fun m => ix_ow h⟩
theorem pick_tup {l : List D} {i : Int} (h0 : 0 ≤ i) (h1 : i < l.length) : ∃ d ∈ l, ∀ m, semIx (.sh, .tuple l) (m, .int i) = .ok (.sh, d) := by
  obtain ⟨n, rfl⟩ := Int.eq_ofNat_of_zero_le h0
  have h : n < l.length := by omega
  exact ⟨l[n], List.getElem_mem h, fun m => ix_tup h⟩
theorem pick_lst {l : List D} {i : Int} (h0 : 0 ≤ i) (h1 : i < l.length) : ∃ d ∈ l, ∀ m, semIx (.sh, .list l) (m, .int i) = .ok (.sh, d) := by
  obtain ⟨n, rfl⟩ := Int.eq_ofNat_of_zero_le h0
  have h : n < l.length := by omega
  exact ⟨l[n], List.getElem_mem h, fun m => ix_lst h⟩
@[simp] theorem cut_tup {ds : List D} {lo hi : Option Int} : cutOf (.sh, .tuple ds) lo hi = .ok (.sh, .tuple (cutD ds lo hi)) := (rfl)
@[simp] theorem cut_ow {ds : List D} {lo hi : Option Int} : cutOf (.ow .sh, .list ds) lo hi = .ok (.ow .sh, .list (cutD ds lo hi)) := (rfl)
@[simp] theorem cut_lst {ds : List D} {lo hi : Option Int} : cutOf (.sh, .list ds) lo hi = .ok (.ow .sh, .list (cutD ds lo hi)) := (rfl)
@[simp] theorem rev_tup {ds : List D} : revOf (.sh, .tuple ds) = .ok (.sh, .tuple ds.reverse) := (rfl)
@[simp] theorem rev_ow {ds : List D} : revOf (.ow .sh, .list ds) = .ok (.ow .sh, .list ds.reverse) := (rfl)
@[simp] theorem rev_lst {ds : List D} : revOf (.sh, .list ds) = .ok (.ow .sh, .list ds.reverse) := (rfl)
theorem mem_cutD {ds : List D} {lo hi : Option Int} {d : D} (h : d ∈ cutD ds lo hi) : d ∈ ds := List.mem_of_mem_drop (List.mem_of_mem_take h)
theorem cut_to {α : Type} (l : List α) (k : Nat) : cutD l none (some (k : Int)) = l.take k := by
  unfold cutD
  rw [HT.sIx_none, List.drop_zero, Nat.sub_zero, HT.sIx_nat]
  by_cases h : k ≤ l.length
  · rw [Nat.min_eq_left h]
  · rw [Nat.min_eq_right (by omega), List.take_length, List.take_of_length_le (by omega)]
theorem cut_from {α : Type} (l : List α) (k : Nat) : cutD l (some (k : Int)) none = l.drop k := by
  unfold cutD
  rw [HT.sIx_none, HT.sIx_nat]
  by_cases h : k ≤ l.length
  · rw [Nat.min_eq_left h, List.take_of_length_le (by rw [List.length_drop]; omega)]
  · rw [Nat.min_eq_right (by omega), List.drop_length, List.drop_eq_nil_of_le (by omega)]
    simp
theorem len_cutD {ds : List D} {lo hi : Option Int} : (cutD ds lo hi).length ≤ ds.length := by
  unfold cutD
  rw [List.length_take, List.length_drop]
  omega
theorem add_tup {xs ys : List D} (h : xs.length + ys.length ≤ 1000000) : semAdd (.sh, .tuple xs) (.sh, .tuple ys) = .ok (.sh, .tuple (xs ++ ys)) := if_pos (small_line h)
theorem add_ow {xs ys : List D} (h : xs.length + ys.length ≤ 1000000) : semAdd (.ow .sh, .list xs) (.ow .sh, .list ys) = .ok (.ow .sh, .list (xs ++ ys)) := by
  show (kids (.ow .sh, .list xs) >>= fun xs => kids (.ow .sh, .list ys) >>= fun ys => if xs.length + ys.length ≤ sizeLine then (Except.ok (Md.ow .sh, PyData.list (xs ++ ys)) : M MV) else stk) = _
  show (if xs.length + ys.length ≤ sizeLine then (Except.ok (Md.ow .sh, PyData.list (xs ++ ys)) : M MV) else stk) = _
  rw [if_pos (small_line h)]
theorem str_ok {m : Md} {i : Int} (h : i.natAbs < 2 ^ 1900) : semStr1 [(m, .int i)] = .ok (.sh, .str (Str.ofString i.repr)) := if_pos (by
  by_cases h0 : i.natAbs = 0
  · rw [h0]; decide
  · have := (Nat.log2_lt h0).mpr h
    omega)
@[simp] theorem give_str {m : Md} {x : Str} : giveR (m, .str x) = .ok (.sh, .str x) := by
  show (if m.gives = true then Except.ok (Md.sh, PyData.str x) else if flatD (.str x) = true then Except.ok (Md.sh, PyData.str x) else stk) = _
  split <;> rfl
@[simp] theorem give_bool {m : Md} {x : Bool} : giveR (m, .bool x) = .ok (.sh, .bool x) := by
  show (if m.gives = true then Except.ok (Md.sh, PyData.bool x) else if flatD (.bool x) = true then Except.ok (Md.sh, PyData.bool x) else stk) = _
  split <;> rfl
/-! == -/
@[simp] theorem shaped_int (i : Int) : SeqAt.shaped (.int i) = true := by
  simp [SeqAt.shaped, PyData.canLay0, PyData.depth]
@[simp] theorem shaped_bl (b : Bool) : SeqAt.shaped (.bool b) = true := by
  simp [SeqAt.shaped, PyData.canLay0, PyData.depth]
@[simp] theorem eq_int {m n : Md} {i j : Int} : semEq (m, .int i) (n, .int j) = .ok (.sh, .bool (decide (i = j))) := by
  unfold semEq eqOk
  simp [shaped_int, PyData.eqv]
  rfl
@[simp] theorem ne_int {m n : Md} {i j : Int} : semNe (m, .int i) (n, .int j) = .ok (.sh, .bool (!decide (i = j))) := by
  unfold semNe eqOk
  simp [shaped_int, PyData.eqv]
  rfl
@[simp] theorem eq_bl {m n : Md} {i j : Bool} : semEq (m, .bool i) (n, .bool j) = .ok (.sh, .bool (i == j)) := by
  unfold semEq eqOk
  cases i <;> cases j <;> simp [shaped_bl, PyData.eqv]
/-! all, any, sum, tuple of lists in hand -/
theorem bools_map (ds : List D) (f : D → Bool) : boolsOf (ds.map fun d => .bool (f d)) = .ok (ds.map f) := by
  induction ds with
  | nil => rfl
  | cons d ds ih =>
    show (boolsOf (ds.map fun d => .bool (f d)) >>= _) = _
    rw [ih]
    rfl
theorem bools_mapT {α : Type} (ds : List α) (f : α → Bool) : boolsOf (ds.map fun d => .bool (f d)) = .ok (ds.map f) := by
  induction ds with
  | nil => rfl
  | cons d ds ih =>
    show (boolsOf (ds.map fun d => .bool (f d)) >>= _) = _
    rw [ih]
    rfl
theorem all_map {α : Type} {ds : List α} {f : α → Bool} : semAll [(.ow .sh, .list (ds.map fun d => .bool (f d)))] = .ok (.sh, .bool (ds.all f)) := by
  show (boolsOf (ds.map fun d => PyData.bool (f d)) >>= fun bs => pure ((.sh, .bool (bs.all id)) : MV)) = _
  rw [bools_mapT]
  show Except.ok ((Md.sh, PyData.bool ((ds.map f).all id)) : MV) = _
  rw [List.all_map]
  rfl
theorem any_map {α : Type} {ds : List α} {f : α → Bool} : semAny [(.ow .sh, .list (ds.map fun d => .bool (f d)))] = .ok (.sh, .bool (ds.any f)) := by
  show (boolsOf (ds.map fun d => PyData.bool (f d)) >>= fun bs => pure ((.sh, .bool (bs.any id)) : MV)) = _
  rw [bools_mapT]
  show Except.ok ((Md.sh, PyData.bool ((ds.map f).any id)) : MV) = _
  rw [List.any_map]
  rfl
@[simp] theorem tupOf_ow {ds : List D} : semTupOf [(.ow .sh, .list ds)] = .ok (.sh, .tuple ds) := (rfl)
@[simp] theorem tupOf_sh {ds : List D} : semTupOf [(.sh, .list ds)] = .ok (.sh, .tuple ds) := (rfl)
@[simp] theorem listOf_ow {ds : List D} : semListOf [(.ow .sh, .list ds)] = .ok (.ow .sh, .list ds) := (rfl)
@[simp] theorem listOf_sh {ds : List D} : semListOf [(.sh, .list ds)] = .ok (.ow .sh, .list ds) := (rfl)
@[simp] theorem listOf_tup {ds : List D} : semListOf [(.sh, .tuple ds)] = .ok (.ow .sh, .list ds) := (rfl)
theorem append_ok {ds : List D} {d : D} (h : ds.length < 1000000) : semAppend ds [(.sh, d)] = .ok (ds ++ [d], (.sh, .none)) := if_pos (by
  have : 1000000 ≤ sizeLine := by decide
  omega)
/-! ranges -/
theorem small_ok {n : Nat} (h : n ≤ 4000) : small62 (n : Int) = true := by
  have h1 : (0 : Int) ≤ n := Int.natCast_nonneg n
  have h2 : (n : Int) ≤ 4000 := by omega
  unfold small62
  rw [Bool.and_eq_true]
  exact ⟨decide_eq_true (Int.le_trans (by decide) h1), decide_eq_true (Int.lt_of_le_of_lt h2 (by decide))⟩
theorem rng_eq (m : Md) (j : Int) : onD rng1 [(m, .int j)] = if small62 j = true then (Except.ok (rangeD 0 1 j.toNat) : M (List D)) else stk := (rfl)
def natsD (n : Nat) : List D := (List.range n).map fun i => PyData.int (i : Nat)
theorem rangeD_nat (n : Nat) : rangeD 0 1 n = natsD n := by
  unfold rangeD natsD
  refine List.map_congr_left fun i _ => ?_
  rw [Int.zero_add, Int.mul_one]
theorem rng_ok {m : Md} {n : Nat} (h : small62 (n : Int) = true) : onD rng1 [(m, .int (n : Int))] = .ok (natsD n) := by
  rw [rng_eq, h, Int.toNat_natCast, rangeD_nat]
  rfl
theorem rng_ok4 {m : Md} {n : Nat} (h : n ≤ 4000) : onD rng1 [(m, .int (n : Int))] = .ok (natsD n) := rng_ok (small_ok h)
/-! data whose numbers are bounded -/
mutual
def bdD (n : Nat) : D → Prop
  | .int i => i.natAbs < 2 ^ n
  | .tuple ds => bdAll n ds
  | .list ds => bdAll n ds
  | _ => True
def bdAll (n : Nat) : List D → Prop
  | [] => True
  | d :: ds => bdD n d ∧ bdAll n ds
end
theorem bdAll_iff {n : Nat} : ∀ {ds : List D}, bdAll n ds ↔ ∀ d ∈ ds, bdD n d
  | [] => by simp [bdAll]
  | d :: ds => by simp [bdAll, bdAll_iff (ds := ds)]
@[simp] theorem bdD_int {n : Nat} {i : Int} : bdD n (.int i) = (i.natAbs < 2 ^ n) := by simp [bdD]
@[simp] theorem bdD_tup {n : Nat} {ds : List D} : bdD n (.tuple ds) = bdAll n ds := by simp [bdD]
@[simp] theorem bdD_lst {n : Nat} {ds : List D} : bdD n (.list ds) = bdAll n ds := by simp [bdD]
/-! loops -/
theorem wipe_eq {vs : List Nat} {S : SS} : wipeS vs S = msk (fun i => !inP vs i) 0 S := (rfl)
@[simp] theorem msk0 {p : Nat → Bool} {k : Nat} : msk p k [] = [] := (rfl)
@[simp] theorem msk1 {p : Nat → Bool} {k : Nat} {x : Option MV} {S : SS} : msk p k (x :: S) = (bif p k then x else none) :: msk p (k + 1) S := (rfl)
@[simp] theorem mrg0 {p : Nat → Bool} {k : Nat} : mrg p k [] [] = [] := (rfl)
@[simp] theorem mrg1 {p : Nat → Bool} {k : Nat} {x y : Option MV} {S T : SS} : mrg p k (x :: S) (y :: T) = (bif p k then x else y) :: mrg p (k + 1) S T := (rfl)
theorem it_ok {vs : List Nat} {g : FG} {tt : FT} {te : FE} {d : D} {S S' : SS} {o : Option MV} (h : itD vs g tt te d S = .ok (o, S')) : ∃ S1 b S2, g (.sh, d) S = .ok S1 ∧ tt S1 = .ok (b, S2) ∧ ((b = true ∧ ∃ r S3, te S2 = .ok (r, S3) ∧ o = some r ∧ S' = wipeS vs S3) ∨ (b = false ∧ o = none ∧ S' = wipeS vs S2)) := by
  obtain ⟨S1, e1, h⟩ := bind_ok h
  obtain ⟨⟨b, S2⟩, e2, h⟩ := bind_ok h
  refine ⟨S1, b, S2, e1, e2, ?_⟩
  cases b with
  | true =>
    obtain ⟨⟨r, S3⟩, e3, h⟩ := bind_ok h
    cases h
    exact .inl ⟨rfl, r, S3, e3, rfl, rfl⟩
  | false =>
    cases h
    exact .inr ⟨rfl, rfl, rfl⟩
section
variable {vs : List Nat} {g : FG} {tt : FT} {te : FE}
/-- any, all: what stays as it is -/
theorem gb_all {p f : D → Bool} {S0 : SS} {m : D → Md} : ∀ {ds : List D}, (∀ d ∈ ds, itD vs g tt te d S0 = .ok (if p d then some (m d, .bool (f d)) else none, S0)) → gbD false vs g tt te ds S0 = .ok (ds.all fun d => !p d || f d, S0)
  | [], _ => rfl
  | d :: ds, h => by
    obtain ⟨S1, b, S2, e1, e2, h3⟩ := it_ok (h d List.mem_cons_self)
    rw [gbD, e1, ex_bind, e2, ex_bind]
    have ih := gb_all (p := p) (f := f) (m := m) (ds := ds) fun x hx => h x (List.mem_cons_of_mem _ hx)
    rcases h3 with ⟨rfl, r, S3, e3, e4, e5⟩ | ⟨rfl, e4, e5⟩
    · cases hp : p d with
      | false => rw [hp] at e4; cases e4
      | true =>
        rw [hp] at e4; cases e4
        dsimp only
        rw [if_pos rfl, e3, ex_bind]
        dsimp only
        rw [← e5]
        cases hf : f d with
        | false => rw [if_pos rfl]; simp [hf, hp]
        | true => rw [if_neg (by simp), ih]; simp [hf, hp]
    · cases hp : p d with
      | true => rw [hp] at e4; cases e4
      | false =>
        dsimp only
        rw [if_neg (by simp), ← e5, ih]; simp [hp]
theorem gb_any {p f : D → Bool} {S0 : SS} {m : D → Md} : ∀ {ds : List D}, (∀ d ∈ ds, itD vs g tt te d S0 = .ok (if p d then some (m d, .bool (f d)) else none, S0)) → gbD true vs g tt te ds S0 = .ok (ds.any fun d => p d && f d, S0)
  | [], _ => rfl
  | d :: ds, h => by
    obtain ⟨S1, b, S2, e1, e2, h3⟩ := it_ok (h d List.mem_cons_self)
    rw [gbD, e1, ex_bind, e2, ex_bind]
    have ih := gb_any (p := p) (f := f) (m := m) (ds := ds) fun x hx => h x (List.mem_cons_of_mem _ hx)
    rcases h3 with ⟨rfl, r, S3, e3, e4, e5⟩ | ⟨rfl, e4, e5⟩
    · cases hp : p d with
      | false => rw [hp] at e4; cases e4
      | true =>
        rw [hp] at e4; cases e4
        dsimp only
        rw [if_pos rfl, e3, ex_bind]
        dsimp only
        rw [← e5]
        cases hf : f d with
        | true => rw [if_pos rfl]; simp [hf, hp]
        | false => rw [if_neg (by simp), ih]; simp [hf, hp]
    · cases hp : p d with
      | true => rw [hp] at e4; cases e4
      | false =>
        dsimp only
        rw [if_neg (by simp), ← e5, ih]; simp [hp]
/-- a comprehension whose turns leave the state as it is -/
theorem lc_mapf {p : D → Bool} {f : D → D} {S0 : SS} {r : D → MV} : ∀ {ds acc : List D}, (∀ d ∈ ds, itD vs g tt te d S0 = .ok (if p d then some (r d) else none, S0) ∧ (p d = true → giveR (r d) = .ok (.sh, f d))) → acc.length + ds.length ≤ 1000000 → lcD vs g tt te ds acc S0 = .ok (acc ++ (ds.filter p).map f, S0)
  | [], acc, _, _ => by simp [lcD]
  | d :: ds, acc, h, hs => by
    obtain ⟨h0, hg⟩ := h d List.mem_cons_self
    obtain ⟨S1, b, S2, e1, e2, h3⟩ := it_ok h0
    rw [lcD, e1, ex_bind, e2, ex_bind]
    simp only [List.length_cons] at hs
    rcases h3 with ⟨rfl, q, S3, e3, e4, e5⟩ | ⟨rfl, e4, e5⟩
    · cases hp : p d with
      | false => rw [hp] at e4; cases e4
      | true =>
        rw [hp] at e4; cases e4
        dsimp only
        rw [if_pos rfl, e3, ex_bind, hg hp, ex_bind, if_pos (by have : 1000000 ≤ sizeLine := by decide
                                                                omega), ← e5]
        rw [lc_mapf (ds := ds) (fun x hx => h x (List.mem_cons_of_mem _ hx)) (by simp; omega)]
        simp [hp]
    · cases hp : p d with
      | true => rw [hp] at e4; cases e4
      | false =>
        dsimp only
        rw [if_neg (by simp), ← e5, lc_mapf (ds := ds) (fun x hx => h x (List.mem_cons_of_mem _ hx)) (by omega)]
        simp [hp]
/-- .. whose turns keep something -/
theorem lc_inv {Inv : SS → Prop} {P : D → D → Prop} : ∀ {ds acc : List D} {S : SS}, (∀ d ∈ ds, ∀ S, Inv S → ∃ r S' v, itD vs g tt te d S = .ok (some r, S') ∧ Inv S' ∧ giveR r = .ok (.sh, v) ∧ P d v) → Inv S → acc.length + ds.length ≤ 1000000 → ∃ us S', lcD vs g tt te ds acc S = .ok (acc ++ us, S') ∧ Inv S' ∧ us.length = ds.length ∧ ∀ u ∈ us, ∃ d ∈ ds, P d u
  | [], acc, S, _, hi, _ => ⟨[], S, by simp [lcD], hi, rfl, by simp⟩
  | d :: ds, acc, S, h, hi, hs => by
    obtain ⟨r, S', v, h0, hi', hg, hP⟩ := h d List.mem_cons_self S hi
    obtain ⟨S1, b, S2, e1, e2, h3⟩ := it_ok h0
    simp only [List.length_cons] at hs
    rcases h3 with ⟨rfl, q, S3, e3, e4, e5⟩ | ⟨rfl, e4, e5⟩
    · cases e4
      obtain ⟨us, S4, e6, h6, h7, h8⟩ := lc_inv (Inv := Inv) (P := P) (ds := ds) (acc := acc ++ [v]) (S := S') (fun x hx => h x (List.mem_cons_of_mem _ hx)) hi' (by simp; omega)
      refine ⟨v :: us, S4, ?_, h6, by simp [h7], ?_⟩
      · rw [lcD, e1, ex_bind, e2, ex_bind]
        dsimp only
        rw [if_pos rfl, e3, ex_bind, hg, ex_bind, if_pos (by have : 1000000 ≤ sizeLine := by decide
                                                             omega), ← e5, e6]
        simp
      · intro u hu
        rcases List.mem_cons.mp hu with rfl | hu
        · exact ⟨d, List.mem_cons_self, hP⟩
        · obtain ⟨d', h9, h10⟩ := h8 u hu
          exact ⟨d', List.mem_cons_of_mem _ h9, h10⟩
    · cases e4
/-- a sum -/
theorem gs_sum {p : D → Bool} {f : D → Int} {S0 : SS} {m : D → Md} : ∀ {ds : List D} {acc : Int}, (∀ d ∈ ds, itD vs g tt te d S0 = .ok (if p d then some (m d, .int (f d)) else none, S0)) → gsD vs g tt te ds acc S0 = .ok (acc + ((ds.filter p).map f).sum, S0)
  | [], acc, _ => by simp [gsD]
  | d :: ds, acc, h => by
    obtain ⟨S1, b, S2, e1, e2, h3⟩ := it_ok (h d List.mem_cons_self)
    rw [gsD, e1, ex_bind, e2, ex_bind]
    rcases h3 with ⟨rfl, q, S3, e3, e4, e5⟩ | ⟨rfl, e4, e5⟩
    · cases hp : p d with
      | false => rw [hp] at e4; cases e4
      | true =>
        rw [hp] at e4; cases e4
        dsimp only
        rw [if_pos rfl, e3, ex_bind, ← e5]
        dsimp only
        rw [gs_sum (ds := ds) fun x hx => h x (List.mem_cons_of_mem _ hx)]
        simp [hp, Int.add_assoc]
    · cases hp : p d with
      | true => rw [hp] at e4; cases e4
      | false =>
        dsimp only
        rw [if_neg (by simp), ← e5, gs_sum (ds := ds) fun x hx => h x (List.mem_cons_of_mem _ hx)]
        simp [hp]
end
@[simp] theorem is_int_int {i : Int} : PT5.is .int (.int i) = true := (rfl)
@[simp] theorem is_int_bool {b : Bool} : PT5.is .int (.bool b) = true := (rfl)
@[simp] theorem is_int_str {x : Str} : PT5.is .int (.str x) = false := (rfl)
@[simp] theorem is_int_tuple {ds : List D} : PT5.is .int (.tuple ds) = false := (rfl)
@[simp] theorem is_int_list {ds : List D} : PT5.is .int (.list ds) = false := (rfl)
@[simp] theorem is_int_dict {kv : List (D × D)} : PT5.is .int (.dict kv) = false := (rfl)
@[simp] theorem is_int_none  : PT5.is .int .none = false := (rfl)
@[simp] theorem is_bool_int {i : Int} : PT5.is .bool (.int i) = false := (rfl)
@[simp] theorem is_bool_bool {b : Bool} : PT5.is .bool (.bool b) = true := (rfl)
@[simp] theorem is_bool_str {x : Str} : PT5.is .bool (.str x) = false := (rfl)
@[simp] theorem is_bool_tuple {ds : List D} : PT5.is .bool (.tuple ds) = false := (rfl)
@[simp] theorem is_bool_list {ds : List D} : PT5.is .bool (.list ds) = false := (rfl)
@[simp] theorem is_bool_dict {kv : List (D × D)} : PT5.is .bool (.dict kv) = false := (rfl)
@[simp] theorem is_bool_none  : PT5.is .bool .none = false := (rfl)
@[simp] theorem is_str_int {i : Int} : PT5.is .str (.int i) = false := (rfl)
@[simp] theorem is_str_bool {b : Bool} : PT5.is .str (.bool b) = false := (rfl)
@[simp] theorem is_str_str {x : Str} : PT5.is .str (.str x) = true := (rfl)
@[simp] theorem is_str_tuple {ds : List D} : PT5.is .str (.tuple ds) = false := (rfl)
@[simp] theorem is_str_list {ds : List D} : PT5.is .str (.list ds) = false := (rfl)
@[simp] theorem is_str_dict {kv : List (D × D)} : PT5.is .str (.dict kv) = false := (rfl)
@[simp] theorem is_str_none  : PT5.is .str .none = false := (rfl)
@[simp] theorem is_tuple_int {i : Int} : PT5.is .tuple (.int i) = false := (rfl)
@[simp] theorem is_tuple_bool {b : Bool} : PT5.is .tuple (.bool b) = false := (rfl)
@[simp] theorem is_tuple_str {x : Str} : PT5.is .tuple (.str x) = false := (rfl)
@[simp] theorem is_tuple_tuple {ds : List D} : PT5.is .tuple (.tuple ds) = true := (rfl)
@[simp] theorem is_tuple_list {ds : List D} : PT5.is .tuple (.list ds) = false := (rfl)
@[simp] theorem is_tuple_dict {kv : List (D × D)} : PT5.is .tuple (.dict kv) = false := (rfl)
@[simp] theorem is_tuple_none  : PT5.is .tuple .none = false := (rfl)
@[simp] theorem is_list_int {i : Int} : PT5.is .list (.int i) = false := (rfl)
@[simp] theorem is_list_bool {b : Bool} : PT5.is .list (.bool b) = false := (rfl)
@[simp] theorem is_list_str {x : Str} : PT5.is .list (.str x) = false := (rfl)
@[simp] theorem is_list_tuple {ds : List D} : PT5.is .list (.tuple ds) = false := (rfl)
@[simp] theorem is_list_list {ds : List D} : PT5.is .list (.list ds) = true := (rfl)
@[simp] theorem is_list_dict {kv : List (D × D)} : PT5.is .list (.dict kv) = false := (rfl)
@[simp] theorem is_list_none  : PT5.is .list .none = false := (rfl)
@[simp] theorem u_inP {vs : List Nat} {i : Nat} : inP vs i = vs.contains i := (rfl)
section
variable {vs : List Nat} {g : FG} {te : FE} {S0 : SS} {ds : List D}
theorem gb_all1 (f : D → Bool) (h : ∀ d ∈ ds, itD vs g ftYes te d S0 = .ok (some (.sh, .bool (f d)), S0)) : gbD false vs g ftYes te ds S0 = .ok (ds.all f, S0) := by
  have := gb_all (vs := vs) (g := g) (tt := ftYes) (te := te) (p := fun _ => true) (f := f) (m := fun _ => .sh) (S0 := S0) (ds := ds) fun d hd => by simpa using h d hd
  simpa using this
theorem gb_any1 (f : D → Bool) (h : ∀ d ∈ ds, itD vs g ftYes te d S0 = .ok (some (.sh, .bool (f d)), S0)) : gbD true vs g ftYes te ds S0 = .ok (ds.any f, S0) := by
  have := gb_any (vs := vs) (g := g) (tt := ftYes) (te := te) (p := fun _ => true) (f := f) (m := fun _ => .sh) (S0 := S0) (ds := ds) fun d hd => by simpa using h d hd
  simpa using this
theorem lc_map1 (f : D → D) (h : ∀ d ∈ ds, ∃ r, itD vs g ftYes te d S0 = .ok (some r, S0) ∧ giveR r = .ok (.sh, f d)) (hl : ds.length ≤ 1000000) : lcD vs g ftYes te ds [] S0 = .ok (ds.map f, S0) := by
  have h' : ∀ d, ∃ r, d ∈ ds → itD vs g ftYes te d S0 = .ok (some r, S0) ∧ giveR r = .ok (.sh, f d) := fun d => by
    by_cases hd : d ∈ ds
    · obtain ⟨r, hr⟩ := h d hd
      exact ⟨r, fun _ => hr⟩
    · exact ⟨(.sh, .none), fun z => absurd z hd⟩
  have := lc_mapf (vs := vs) (g := g) (tt := ftYes) (te := te) (p := fun _ => true) (f := f) (r := fun d => (h' d).choose) (S0 := S0) (ds := ds) (acc := []) (fun d hd => ⟨by simpa using ((h' d).choose_spec hd).1, fun _ => ((h' d).choose_spec hd).2⟩) (by simpa using hl)
  rw [this, List.filter_eq_self.mpr (fun _ _ => rfl)]; rfl
end
theorem lc_map2 {vs : List Nat} {g : FG} {te : FE} {S0 : SS} {ds : List D} (f : D → D) (h : ∀ d ∈ ds, itD vs g ftYes te d S0 = .ok (some (.sh, f d), S0)) (hl : ds.length ≤ 1000000) : lcD vs g ftYes te ds [] S0 = .ok (ds.map f, S0) := lc_map1 f (fun d hd => ⟨_, h d hd, rfl⟩) hl
/-- the numbers from i on, k of them -/
def natsFrom : Nat → Nat → List D
  | _, 0 => []
  | i, k + 1 => .int (i : Nat) :: natsFrom (i + 1) k
theorem natsD_from (n : Nat) : natsD n = natsFrom 0 n := by
  have key : ∀ k i : Nat, (List.range' i k).map (fun j => PyData.int (j : Nat)) = natsFrom i k := by
    intro k
    induction k with
    | zero => intro i; rfl
    | succ k ih => intro i; rw [List.range'_succ, List.map_cons, ih]; rfl
  unfold natsD
  rw [List.range_eq_range', key]
/-- a row with its places -/
def enFrom : Nat → List D → List D
  | _, [] => []
  | i, d :: ds => .tuple [.int (i : Nat), d] :: enFrom (i + 1) ds
theorem enum_sh {ds : List D} : enumOf [(.sh, .tuple ds)] = .ok (enFrom 0 ds) := by
  have key : ∀ (ds : List D) (i : Nat), (ds.zipIdx i).map (fun x => PyData.tuple [.int (x.2 : Nat), x.1]) = enFrom i ds := by
    intro ds
    induction ds with
    | nil => intro i; rfl
    | cons d ds ih => intro i; rw [List.zipIdx_cons, List.map_cons, ih]; rfl
  show Except.ok (ds.zipIdx.map fun x => PyData.tuple [.int (x.2 : Nat), x.1]) = _
  rw [key]
theorem enum_lst {ds : List D} : enumOf [(.sh, .list ds)] = .ok (enFrom 0 ds) := enum_sh (ds := ds)
theorem mem_natsD {n : Nat} {d : D} (h : d ∈ natsD n) : ∃ i : Nat, i < n ∧ d = .int i := by
  unfold natsD at h
  obtain ⟨i, hi, rfl⟩ := List.mem_map.mp h
  exact ⟨i, List.mem_range.mp hi, rfl⟩
@[simp] theorem natsD_len {n : Nat} : (natsD n).length = n := by simp [natsD]
/-- a for by its invariant: what is left of the row, and the state -/
theorem for_inv {g : FG} {body : FS} {Inv : List D → SS → Prop} {Post : Fl → SS → Prop} (h : ∀ d ds S, Inv (d :: ds) S → ∃ S1 fl S2, g (.sh, d) S = .ok S1 ∧ body S1 = .ok (fl, S2) ∧ (match fl with
      | .nx => Inv ds S2
      | .ct => Inv ds S2
      | .bk => Post .nx S2
      | .rt r => Post (.rt r) S2)) (h0 : ∀ S, Inv [] S → Post .nx S) : ∀ {ds : List D} {S : SS}, Inv ds S → ∃ fl S', forD g body ds S = .ok (fl, S') ∧ Post fl S'
  | [], S, hi => ⟨.nx, S, rfl, h0 S hi⟩
  | d :: ds, S, hi => by
    obtain ⟨S1, fl, S2, e1, e2, q⟩ := h d ds S hi
    rw [forD, e1, ex_bind, e2, ex_bind]
    cases fl with
    | nx => exact for_inv h h0 q
    | ct => exact for_inv h h0 q
    | bk => exact ⟨.nx, S2, rfl, q⟩
    | rt r => exact ⟨.rt r, S2, rfl, q⟩
/-- a for that works a state out -/
theorem for_fold {β : Type} {g : FG} {body : FS} {st : β → SS} {step : β → D → β} {ok : β → List D → Prop} (h : ∀ b d ds, ok b (d :: ds) → ∃ S1, g (.sh, d) (st b) = .ok S1 ∧ (body S1 = .ok (.nx, st (step b d)) ∨ body S1 = .ok (.ct, st (step b d))) ∧ ok (step b d) ds) : ∀ {ds : List D} {b : β}, ok b ds → forD g body ds (st b) = .ok (.nx, st (ds.foldl step b)) ∧ ok (ds.foldl step b) []
  | [], b, hb => ⟨rfl, hb⟩
  | d :: ds, b, hb => by
    obtain ⟨S1, e1, e2, q⟩ := h b d ds hb
    rw [forD, e1, ex_bind, List.foldl_cons]
    rcases e2 with e2 | e2
    · rw [e2, ex_bind]; exact for_fold h q
    · rw [e2, ex_bind]; exact for_fold h q
/-- a while by its measure -/
theorem while_inv {t : FT} {body : FS} {Inv : Nat → SS → Prop} {Post : Fl → SS → Prop} (h : ∀ n S, Inv n S → ∃ b S1, t S = .ok (b, S1) ∧ (b = false → Post .nx S1) ∧ (b = true → ∃ fl S2, body S1 = .ok (fl, S2) ∧ (match fl with
      | .nx => ∃ k, k < n ∧ Inv k S2
      | .ct => ∃ k, k < n ∧ Inv k S2
      | .bk => Post .nx S2
      | .rt r => Post (.rt r) S2))) : ∀ {F n : Nat} {S : SS}, n < F → Inv n S → ∃ fl S', whileD t body F S = .ok (fl, S') ∧ Post fl S'
  | 0, n, S, hF, _ => absurd hF (Nat.not_lt_zero n)
  | F + 1, n, S, hF, hi => by
    obtain ⟨b, S1, e1, q1, q2⟩ := h n S hi
    rw [whileD, e1, ex_bind]
    cases b with
    | false => exact ⟨.nx, S1, rfl, q1 rfl⟩
    | true =>
      obtain ⟨fl, S2, e2, q⟩ := q2 rfl
      dsimp only
      rw [if_pos rfl, e2, ex_bind]
      cases fl with
      | nx =>
        obtain ⟨k, hk, q⟩ := q
        exact while_inv h (by omega) q
      | ct =>
        obtain ⟨k, hk, q⟩ := q
        exact while_inv h (by omega) q
      | bk => exact ⟨.nx, S2, rfl, q⟩
      | rt r => exact ⟨.rt r, S2, rfl, q⟩
end O
set_option maxRecDepth 100000
/-! the box that a law draws from -/
namespace O
open PySem
structure Bx where
  cells : List Int
  n1 : Nat
  n2 : Int
def dB (b : Bx) : D := .list [.list (b.cells.map .int), .int (b.n1 : Nat), .int b.n2]
theorem boxD_eq (ns : List Int) : boxD ns = dB ⟨ns, 0, 4711 + ns.length⟩ := (rfl)
theorem tailD_pos (n : Int) : 0 ≤ (tailD n).1 := by
  unfold tailD
  have h1 : 0 ≤ (n * 48271 + 17) % 2147483629 := Int.emod_nonneg _ (by decide)
  have h2 : 0 ≤ (((n * 48271 + 17) % 2147483629) * 69621 + 5) % 2147483587 := Int.emod_nonneg _ (by decide)
  have h3 : 0 ≤ ((((n * 48271 + 17) % 2147483629) * 69621 + 5) % 2147483587 * 40692 + 3) % 2147483563 := Int.emod_nonneg _ (by decide)
  dsimp only
  omega
def Bx.load (b : Bx) : Bx := match b.cells with
  | [] => ⟨[], (tailD b.n2).1.toNat, (tailD b.n2).2⟩
  | c :: cs => if 1000000000000000000 ≤ sizeD c then ⟨cs, (sizeD c).toNat, b.n2⟩ else
    ⟨cs, (tailD ((b.n2 * 69621 + sizeD c * 48271 + 11) % 2147483647)).1.toNat, (tailD ((b.n2 * 69621 + sizeD c * 48271 + 11) % 2147483647)).2⟩
theorem m_load_ok (b : Bx) : m_load [(.bx, dB b)] = .ok ((.sh, .int (b.load.n1 : Nat)), [(.bx, .list [.list (b.load.cells.map .int), .int (b.n1 : Nat), .int b.load.n2])]) := by
  obtain ⟨cells, n1, n2⟩ := b
  cases cells with
  | nil =>
    show Except.ok (((Md.sh, PyData.int (tailD n2).1), _) : MV × List MV) = _
    have h := tailD_pos n2
    have e : (((tailD n2).1.toNat : Nat) : Int) = (tailD n2).1 := by omega
    simp only [Bx.load, e]
    rfl
  | cons c cs =>
    show (loadD (.int c :: cs.map .int) n2 >>= _) = _
    unfold loadD
    by_cases hc : 1000000000000000000 ≤ sizeD c
    · have e : (((sizeD c).toNat : Nat) : Int) = sizeD c := by omega
      simp only [hc, if_true, ex_bind, Bx.load, e]
      rfl
    · have h := tailD_pos ((n2 * 69621 + sizeD c * 48271 + 11) % 2147483647)
      simp only [hc, if_false, ex_bind, Bx.load]
      generalize (tailD ((n2 * 69621 + sizeD c * 48271 + 11) % 2147483647)) = t at h ⊢
      have e : ((t.1.toNat : Nat) : Int) = t.1 := by omega
      rw [e]
      rfl
def Bx.fill (b : Bx) (k : Int) : Bx := if (b.n1 : Int) < k then b.load else b
def Bx.dig (b : Bx) (k : Int) : Int := ((b.fill k).n1 : Int) % k
def Bx.nxt (b : Bx) (k : Int) : Bx := { b.fill k with n1 := (((b.fill k).n1 : Int) / k).toNat }
theorem Bx.dig_nn (b : Bx) {k : Int} (h : 0 < k) : 0 ≤ b.dig k := Int.emod_nonneg _ (by omega)
theorem Bx.dig_lt (b : Bx) {k : Int} (h : 0 < k) : b.dig k < k := Int.emod_lt_of_pos _ h
def bDraw : FS :=
  sSeq (sIf (tB1 (fOp2 semLt (oV (fOp2 semIx (oP 0) (oV (fCon (.int 1))))) (oP 1))) (sAsg (gIxB 0 0) (fCall 1 [0] m_load (aCons (oP 0) (aNil)))) (sNil)) (
  sSeq (sAsg (gNm 2) (fOp2 semMod (oV (fN semInt1 (aCons (oV (fOp2 semIx (oP 0) (oV (fCon (.int 1))))) (aNil)))) (oP 1))) (
  sSeq (sAsg (gIxB 0 0) (fOp2 semFdiv (oV (fOp2 semIx (oP 0) (oV (fCon (.int 1))))) (oP 1))) (
  sRet (fTake 2))))
theorem divOk_of {j : Int} (h : 0 < j) (hb : j < 2 ^ 200) : DvOk j := ⟨by omega, by
  have : j.natAbs.log2 < 200 := (Nat.log2_lt (by omega)).mpr (by omega)
  omega⟩
theorem bDraw_ok (b : Bx) {k : Int} (h : 0 < k) (hk : k < 2 ^ 200) : runD 3 [0] bDraw [(.bx, dB b), (.sh, .int k)] = .ok ((.sh, .int (b.dig k)), [(.bx, dB (b.nxt k))]) := by
  have hd := divOk_of h hk
  have hf : ∀ n : Nat, ((n : Int).fdiv k) = (((n : Int) / k).toNat : Nat) := fun n => by
    rw [Int.fdiv_eq_ediv_of_nonneg _ (by omega)]
    have : 0 ≤ (n : Int) / k := Int.ediv_nonneg (by omega) (by omega)
    omega
  unfold bDraw
  have hl := m_load_ok b
  by_cases hn : (b.n1 : Int) < k
  · unfold Bx.dig Bx.nxt Bx.fill
    rw [if_pos hn]
    generalize b.load = b' at hl ⊢
    unfold dB at hl ⊢
    simp [hn, hl, h, hd, hf]
  · unfold Bx.dig Bx.nxt Bx.fill
    rw [if_neg hn]
    unfold dB
    simp [hn, h, hd, hf]
/-! sameness -/
def bSame (me : SemF) : FS :=
  sSeq (sIf (fOrT (fAndT (tB1 (fO1 (semIsT .tuple) (oP 0))) (tB1 (fO1 (semIsT .tuple) (oP 1)))) (fAndT (tB1 (fO1 (semIsT .list) (oP 0))) (tB1 (fO1 (semIsT .list) (oP 1))))) (sRet (fAndV (fOp2 semEq (oV (fN semLen (aCons (oP 0) (aNil)))) (oV (fN semLen (aCons (oP 1) (aNil))))) (fN semAll (aCons (oV (fLc 3 [2] (fiA (onD rng1) (aCons (oV (fN semLen (aCons (oP 0) (aNil)))) (aNil))) (gNm 2) (ftYes) (fCall 2 [] me (aCons (oV (fOp2 semIx (oP 0) (oP 2))) (aCons (oV (fOp2 semIx (oP 1) (oP 2))) (aNil)))))) (aNil))))) (sNil)) (
  sSeq (sIf (fOrT (tB1 (fO1 (semIsT .bool) (oP 0))) (tB1 (fO1 (semIsT .bool) (oP 1)))) (sRet (fAndV (fO1 (semIsT .bool) (oP 0)) (fAndV (fO1 (semIsT .bool) (oP 1)) (fOp2 semEq (oP 0) (oP 1))))) (sNil)) (
  sSeq (sIf (fOrT (fAndT (tB1 (fO1 (semIsT .int) (oP 0))) (tB1 (fO1 (semIsT .int) (oP 1)))) (fAndT (tB1 (fO1 (semIsT .str) (oP 0))) (tB1 (fO1 (semIsT .str) (oP 1))))) (sRet (fOp2 semEq (oP 0) (oP 1))) (sNil)) (
  sRet (fAndV (fOp2 semIs (oP 0) (oV (fCon .none))) (fOp2 semIs (oP 1) (oV (fCon .none)))))))
def mSame : Nat → SemF
  | 0 => fun _ => stk
  | n + 1 => runD 3 [] (bSame (mSame n))
end O
set_option maxRecDepth 100000
set_option maxHeartbeats 4000000
namespace Yk65
open PySem O
theorem sz2 : 2 ≤ sizeLine := by decide
/-! the law's own greatest common divisor -/
def bodyC : FS := sPar 0 1 (aCons (oV (fVar 1)) (aCons (oV (fOp2 semMod (oV (fN semInt1 (aCons (oP 0) (aNil)))) (oP 1))) (aNil)))
def tstC : FT := tB1 (fOp2 semGtI (oP 1) (oV (fCon (.int 0))))
theorem loopC : ∀ (k : Nat) (a b : Nat) (n : Nat), b < 2 ^ k → 2 * k + 1 ≤ n → whileD tstC bodyC n [some (.sh, .int a), some (.sh, .int b)] = .ok (.nx, [some (.sh, .int (Nat.gcd a b)), some (.sh, .int 0)]) := by
  have step : ∀ (a b n : Nat), 0 < b → whileD tstC bodyC (n + 1) [some (.sh, .int a), some (.sh, .int b)] = whileD tstC bodyC n [some (.sh, .int b), some (.sh, .int (a % b : Nat))] := fun a b n hb => by
    have h1 : (0 : Int) < (b : Int) := by omega
    rw [whileD]
    simp [tstC, bodyC, h1, hb]
  have stop : ∀ (a n : Nat), whileD tstC bodyC (n + 1) [some (.sh, .int a), some (.sh, .int (0 : Nat))] = .ok (.nx, [some (.sh, .int a), some (.sh, .int (0 : Nat))]) := fun a n => by
    rw [whileD]
    simp [tstC, bodyC]
  intro k
  induction k with
  | zero =>
    intro a b n hb hn
    obtain rfl : b = 0 := by simpa using hb
    obtain ⟨m, rfl⟩ : ∃ m, n = m + 1 := ⟨n - 1, by omega⟩
    rw [stop]; simp
  | succ k ih =>
    intro a b n hb hn
    obtain ⟨m, rfl⟩ : ∃ m, n = m + 2 := ⟨n - 2, by omega⟩
    by_cases h0 : b = 0
    · subst h0; rw [stop]; simp
    · rw [step a b (m + 1) (by omega)]
      by_cases h1 : a % b = 0
      · rw [h1, stop]
        have : Nat.gcd a b = b := by
          rw [Nat.gcd_comm, Nat.gcd_rec, h1, Nat.gcd_zero_left]
        rw [this]; simp
      · rw [step b (a % b) m (by omega)]
        have hlt : a % b < b := Nat.mod_lt _ (by omega)
        have h2 : b % (a % b) < 2 ^ k := by
          have h3 := Nat.div_add_mod b (a % b)
          have h4 : b % (a % b) < a % b := Nat.mod_lt _ (by omega)
          have h5 : 1 ≤ b / (a % b) := Nat.div_pos (by omega) (by omega)
          have h6 : a % b ≤ (a % b) * (b / (a % b)) := Nat.le_mul_of_pos_right _ h5
          rw [Nat.pow_succ] at hb
          omega
        rw [ih _ _ m h2 (by omega)]
        have e1 : Nat.gcd (a % b) (b % (a % b)) = Nat.gcd a b := by
          rw [Nat.gcd_comm (a % b), ← Nat.gcd_rec, ← Nat.gcd_rec, Nat.gcd_comm]
        rw [e1]
theorem common_ok {p q : Int} (hq : q.natAbs < 2 ^ 4000) : m__law_common [(.sh, .int p), (.sh, .int q)] = .ok ((.sh, .int (Nat.gcd p.natAbs q.natAbs : Nat)), []) := by
  unfold m__law_common b__law_common
  have ha : ∀ i : Int, (if i < 0 then -i else i) = (i.natAbs : Int) := fun i => by split <;> omega
  have hl := loopC 4000 p.natAbs q.natAbs 1000000 hq (by omega)
  unfold tstC bodyC at hl
  generalize hW : whileD _ _ 1000000 = W at hl ⊢
  simp [ha, hl]
/-! lowest terms -/
def lowP (p q : Int) : Int := if q < 0 then -p else p
def lowQ (p q : Int) : Int := if q < 0 then -q else q
def gD (p q : Int) : Int := (Nat.gcd p.natAbs q.natAbs : Nat)
def low (p q : Int) : Int × Int := (lowP p q / gD p q, lowQ p q / gD p q)
def dR (r : Int × Int) : D := .tuple [.int r.1, .int r.2]
theorem gD_pos {p q : Int} (h : q ≠ 0) : 0 < gD p q := by
  unfold gD
  have : 0 < Nat.gcd p.natAbs q.natAbs := Nat.gcd_pos_of_pos_right _ (by omega)
  omega
theorem div_of {j : Int} (h : 0 < j) (hb : j.natAbs < 2 ^ 4000) : DvOk j := ⟨by omega, by
  have : j.natAbs.log2 < 4000 := (Nat.log2_lt (by omega)).mpr hb
  omega⟩
theorem gD_le {p q : Int} (h : q ≠ 0) (hb : q.natAbs < 2 ^ 4000) : (gD p q).natAbs < 2 ^ 4000 := by
  unfold gD
  have : Nat.gcd p.natAbs q.natAbs ≤ q.natAbs := Nat.gcd_le_right _ (by omega)
  exact Nat.lt_of_le_of_lt this hb
theorem fdiv_pos {i j : Int} (h : 0 < j) : i.fdiv j = i / j := Int.fdiv_eq_ediv_of_nonneg i (by omega)
theorem lowest_ok {p q : Int} (h0 : q ≠ 0) (hq : q.natAbs < 2 ^ 4000) : m__law_lowest [(.sh, .int p), (.sh, .int q)] = .ok ((.sh, dR (low p q)), []) := by
  unfold m__law_lowest b__law_lowest
  have hg := gD_pos (p := p) h0
  have hd := div_of hg (gD_le (p := p) h0 hq)
  unfold low lowP lowQ dR
  by_cases h : q < 0
  · have hc := common_ok (p := -p) (q := -q) (by omega)
    rw [Int.natAbs_neg, Int.natAbs_neg] at hc
    change _ = Except.ok ((Md.sh, PyData.int (gD p q)), []) at hc
    simp [h, hc, hd, fdiv_pos hg]
  · have hc := common_ok (p := p) (q := q) hq
    change _ = Except.ok ((Md.sh, PyData.int (gD p q)), []) at hc
    simp [h, hc, hd, fdiv_pos hg]
theorem gD_dvd_l (p q : Int) : gD p q ∣ p := by
  unfold gD
  exact Int.ofNat_dvd_left.mpr (Nat.gcd_dvd_left _ _)
theorem gD_dvd_r (p q : Int) : gD p q ∣ q := by
  unfold gD
  exact Int.ofNat_dvd_left.mpr (Nat.gcd_dvd_right _ _)
theorem fdiv_neg_of {i j : Int} (h : 0 < j) (hd : j ∣ i) : i.fdiv (-j) = (-i) / j := by
  obtain ⟨k, rfl⟩ := hd
  have e1 : j * k = (-j) * (-k) := by rw [Int.neg_mul_neg]
  rw [e1, Int.mul_fdiv_cancel_left _ (by omega)]
  rw [show -(-j * -k) = j * (-k) by rw [Int.neg_mul, Int.neg_neg]]
  rw [Int.mul_ediv_cancel_left _ (by omega)]
theorem ratio_ok {p q : Int} (h0 : q ≠ 0) (hq : q.natAbs < 2 ^ 4000) : m_ratio [(.sh, .int p), (.sh, .int q)] = .ok ((.sh, dR (low p q)), []) := by
  unfold m_ratio b_ratio
  have hg := gD_pos (p := p) h0
  have hd := div_of hg (gD_le (p := p) h0 hq)
  have hd2 : DvOk (-gD p q) := ⟨by omega, by rw [Int.natAbs_neg]; exact hd.2⟩
  unfold low lowP lowQ dR
  by_cases h : q < 0
  · change DvOk (-((Nat.gcd p.natAbs q.natAbs : Nat) : Int)) at hd2
    have e1 := fdiv_neg_of hg (gD_dvd_l p q)
    have e2 := fdiv_neg_of hg (gD_dvd_r p q)
    unfold gD at e1 e2
    simp [h, hd2, e1, e2, gD]
  · change DvOk (((Nat.gcd p.natAbs q.natAbs : Nat) : Int)) at hd
    have e1 := fdiv_pos (i := p) hg
    have e2 := fdiv_pos (i := q) hg
    unfold gD at e1 e2
    simp [h, hd, e1, e2, gD]
end Yk65
set_option maxRecDepth 100000
set_option maxHeartbeats 4000000
namespace Yk65
open PySem O
theorem bits_le (i : Int) : Builtin.Int.intBits i ≤ i.natAbs.log2 + 1 := by
  unfold Builtin.Int.intBits
  split <;> omega
theorem log_lt {i : Int} {n : Nat} (h : i.natAbs < 2 ^ n) : i.natAbs.log2 ≤ n := by
  by_cases h0 : i.natAbs = 0
  · rw [h0]; simp
  · exact Nat.le_of_lt ((Nat.log2_lt h0).mpr h)
theorem mulOk_of {i j : Int} {a b : Nat} (hi : i.natAbs < 2 ^ a) (hj : j.natAbs < 2 ^ b) (h : a + b ≤ 100000000) : MuOk i j := by
  have h1 := bits_le i
  have h2 := bits_le j
  have h3 := log_lt hi
  have h4 := log_lt hj
  unfold MuOk
  omega
theorem b_mul {i j : Int} {a b : Nat} (hi : i.natAbs < 2 ^ a) (hj : j.natAbs < 2 ^ b) : (i * j).natAbs < 2 ^ (a + b) := by
  rw [Int.natAbs_mul, Nat.pow_add]
  exact Nat.mul_lt_mul'' hi hj
theorem b_add {i j : Int} {a : Nat} (hi : i.natAbs < 2 ^ a) (hj : j.natAbs < 2 ^ a) : (i + j).natAbs < 2 ^ (a + 1) := by
  rw [Nat.pow_succ]
  omega
theorem b_mono {i : Int} {a b : Nat} (h : i.natAbs < 2 ^ a) (hab : a ≤ b) : i.natAbs < 2 ^ b := Nat.lt_of_lt_of_le h (Nat.pow_le_pow_right (by omega) hab)
/-! what lowest terms are -/
structure IsLow (r : Int × Int) (p q : Int) : Prop where
  pos : 0 < r.2
  cop : Nat.gcd r.1.natAbs r.2.natAbs = 1
  eq : r.1 * q = p * r.2
theorem low_is {p q : Int} (h : q ≠ 0) : IsLow (low p q) p q := by
  have hg := gD_pos (p := p) h
  obtain ⟨a, ha⟩ := gD_dvd_l p q
  obtain ⟨b, hb⟩ := gD_dvd_r p q
  have hab : Nat.gcd a.natAbs b.natAbs = 1 := by
    have e : Nat.gcd p.natAbs q.natAbs = (gD p q).natAbs := rfl
    have e1 : p.natAbs = (gD p q).natAbs * a.natAbs := by rw [← Int.natAbs_mul, ← ha]
    have e2 : q.natAbs = (gD p q).natAbs * b.natAbs := by rw [← Int.natAbs_mul, ← hb]
    rw [e1, e2, Nat.gcd_mul_left] at e
    have h3 : 0 < (gD p q).natAbs := by omega
    exact Nat.eq_of_mul_eq_mul_left h3 (by rw [e, Nat.mul_one])
  have hb0 : b ≠ 0 := fun z => h (by rw [hb, z, Int.mul_zero])
  have low_eq : low p q = if q < 0 then (-a, -b) else (a, b) := by
    unfold low lowP lowQ
    by_cases hq : q < 0
    · have e1 : (-p) / gD p q = -a := by
        have : -p = gD p q * (-a) := by rw [Int.mul_neg, ← ha]
        rw [this, Int.mul_ediv_cancel_left _ (by omega)]
      have e2 : (-q) / gD p q = -b := by
        have : -q = gD p q * (-b) := by rw [Int.mul_neg, ← hb]
        rw [this, Int.mul_ediv_cancel_left _ (by omega)]
      simp only [hq, if_true]
      rw [e1, e2]
    · have e1 : p / gD p q = a := by
        conv => lhs; lhs; rw [ha]
        rw [Int.mul_ediv_cancel_left _ (by omega)]
      have e2 : q / gD p q = b := by
        conv => lhs; lhs; rw [hb]
        rw [Int.mul_ediv_cancel_left _ (by omega)]
      simp only [hq, if_false]
      rw [e1, e2]
  have key : a * q = p * b := by
    conv => lhs; rw [hb]
    conv => rhs; rw [ha]
    rw [Int.mul_left_comm, Int.mul_assoc]
  rw [low_eq]
  by_cases hq : q < 0
  · rw [if_pos hq]
    have : b < 0 := by
      rcases Int.lt_trichotomy b 0 with h1 | h1 | h1
      · exact h1
      · exact absurd h1 hb0
      · have := Int.mul_pos hg h1
        omega
    refine ⟨by show 0 < -b; omega, by show Nat.gcd (-a).natAbs (-b).natAbs = 1; rw [Int.natAbs_neg, Int.natAbs_neg]; exact hab, ?_⟩
    show -a * q = p * -b
    rw [Int.neg_mul, Int.mul_neg, key]
  · rw [if_neg hq]
    have : 0 < b := by
      rcases Int.lt_trichotomy b 0 with h1 | h1 | h1
      · have := Int.mul_neg_of_pos_of_neg hg h1
        omega
      · exact absurd h1 hb0
      · exact h1
    exact ⟨this, hab, key⟩
theorem low_uniq {r s : Int × Int} (hr : 0 < r.2) (hs : 0 < s.2) (cr : Nat.gcd r.1.natAbs r.2.natAbs = 1) (cs : Nat.gcd s.1.natAbs s.2.natAbs = 1) (h : r.1 * s.2 = s.1 * r.2) : r = s := by
  have hn : r.1.natAbs * s.2.natAbs = s.1.natAbs * r.2.natAbs := by rw [← Int.natAbs_mul, ← Int.natAbs_mul, h]
  have d1 : r.2.natAbs ∣ s.2.natAbs := by
    have : r.2.natAbs ∣ r.1.natAbs * s.2.natAbs := ⟨s.1.natAbs, by rw [hn, Nat.mul_comm]⟩
    exact (Nat.Coprime.symm (show Nat.Coprime r.1.natAbs r.2.natAbs from cr)).dvd_of_dvd_mul_left this
  have d2 : s.2.natAbs ∣ r.2.natAbs := by
    have : s.2.natAbs ∣ s.1.natAbs * r.2.natAbs := ⟨r.1.natAbs, by rw [← hn, Nat.mul_comm]⟩
    exact (Nat.Coprime.symm (show Nat.Coprime s.1.natAbs s.2.natAbs from cs)).dvd_of_dvd_mul_left this
  have e2 : r.2 = s.2 := by
    have := Nat.dvd_antisymm d1 d2
    omega
  have e1 : r.1 = s.1 := by
    rw [e2] at h
    exact Int.eq_of_mul_eq_mul_right (by omega) h
  exact Prod.ext e1 e2
theorem IsLow.uniq {r s : Int × Int} {p q p' q' : Int} (a : IsLow r p q) (b : IsLow s p' q') (hq : q ≠ 0) (hq' : q' ≠ 0) (h : p * q' = p' * q) : r = s := by
  refine low_uniq a.pos b.pos a.cop b.cop ?_
  have e1 := a.eq
  have e2 := b.eq
  have : (r.1 * s.2) * (q * q') = (s.1 * r.2) * (q * q') := by
    calc (r.1 * s.2) * (q * q') = (r.1 * q) * (s.2 * q') := by ac_rfl
      _ = (p * r.2) * (s.2 * q') := by rw [e1]
      _ = (p * q') * (r.2 * s.2) := by ac_rfl
      _ = (p' * q) * (r.2 * s.2) := by rw [h]
      _ = (p' * s.2) * (r.2 * q) := by ac_rfl
      _ = (s.1 * q') * (r.2 * q) := by rw [← e2]
      _ = (s.1 * r.2) * (q * q') := by ac_rfl
  exact Int.eq_of_mul_eq_mul_right (Int.mul_ne_zero hq hq') this
theorem low_congr {p q p' q' : Int} (hq : q ≠ 0) (hq' : q' ≠ 0) (h : p * q' = p' * q) : low p q = low p' q' := (low_is hq).uniq (low_is hq') hq hq' h
theorem low_self {r : Int × Int} (h : 0 < r.2) (c : Nat.gcd r.1.natAbs r.2.natAbs = 1) : low r.1 r.2 = r := (low_is (by omega)).uniq ⟨h, c, rfl⟩ (by omega) (by omega) rfl
/-! the program's ratios -/
theorem plus_ok {r s : Int × Int} (h1 : r.1.natAbs < 2 ^ 1000) (h2 : r.2.natAbs < 2 ^ 1000) (h3 : s.1.natAbs < 2 ^ 1000) (h4 : s.2.natAbs < 2 ^ 1000) (hr : r.2 ≠ 0) (hs : s.2 ≠ 0) : m_plus [(.sh, dR r), (.sh, dR s)] = .ok ((.sh, dR (low (r.1 * s.2 + s.1 * r.2) (r.2 * s.2))), []) := by
  unfold m_plus b_plus
  have e := ratio_ok (p := r.1 * s.2 + s.1 * r.2) (q := r.2 * s.2) (Int.mul_ne_zero hr hs) (b_mono (b_mul h2 h4) (by omega))
  have m1 := mulOk_of h1 h4 (by omega)
  have m2 := mulOk_of h3 h2 (by omega)
  have m3 := mulOk_of h2 h4 (by omega)
  simp only [dR] at e ⊢
  simp [m1, m2, m3, e]
theorem times_ok {r s : Int × Int} (h1 : r.1.natAbs < 2 ^ 1000) (h2 : r.2.natAbs < 2 ^ 1000) (h3 : s.1.natAbs < 2 ^ 1000) (h4 : s.2.natAbs < 2 ^ 1000) (hr : r.2 ≠ 0) (hs : s.2 ≠ 0) : m_times [(.sh, dR r), (.sh, dR s)] = .ok ((.sh, dR (low (r.1 * s.1) (r.2 * s.2))), []) := by
  unfold m_times b_times
  have e := ratio_ok (p := r.1 * s.1) (q := r.2 * s.2) (Int.mul_ne_zero hr hs) (b_mono (b_mul h2 h4) (by omega))
  have m1 := mulOk_of h1 h3 (by omega)
  have m3 := mulOk_of h2 h4 (by omega)
  simp only [dR] at e ⊢
  simp [m1, m3, e]
theorem less_ok {r s : Int × Int} (h1 : r.1.natAbs < 2 ^ 10000) (h2 : r.2.natAbs < 2 ^ 10000) (h3 : s.1.natAbs < 2 ^ 10000) (h4 : s.2.natAbs < 2 ^ 10000) : m_less [(.sh, dR r), (.sh, dR s)] = .ok ((.sh, .bool (decide (r.1 * s.2 < s.1 * r.2))), []) := by
  unfold m_less b_less
  have m1 := mulOk_of h1 h4 (by omega)
  have m2 := mulOk_of h3 h2 (by omega)
  simp only [dR]
  simp [m1, m2]
def rnd (r : Int × Int) : Int := (2 * r.1 + r.2) / (2 * r.2)
theorem rounded_ok {r : Int × Int} (h1 : r.1.natAbs < 2 ^ 4000) (h2 : r.2.natAbs < 2 ^ 3000) (h : 0 < r.2) : m_rounded [(.sh, dR r)] = .ok ((.sh, .int (rnd r)), []) := by
  unfold m_rounded b_rounded
  have m1 : MuOk 2 r.1 := mulOk_of (a := 2) (by decide) h1 (by omega)
  have m2 : MuOk 2 r.2 := mulOk_of (a := 2) (by decide) h2 (by omega)
  have hp : 0 < 2 * r.2 := by omega
  have d : DvOk (2 * r.2) := div_of hp (b_mono (b_mul (i := 2) (a := 2) (by decide) h2) (by omega))
  have e := fdiv_pos (i := 2 * r.1 + r.2) hp
  simp only [dR, rnd]
  simp [m1, m2, d, e]
theorem round_ok {r : Int × Int} (h1 : r.1.natAbs < 2 ^ 4000) (h2 : r.2.natAbs < 2 ^ 3000) (h : 0 < r.2) : m__law_round [(.sh, dR r)] = .ok ((.sh, .int (rnd r)), []) := rounded_ok h1 h2 h
end Yk65
set_option maxRecDepth 100000
set_option maxHeartbeats 4000000
namespace Yk65
open PySem O
/-! loops of one name -/
theorem lc_map {i : Nat} {te : FE} {f : D → D} {S0 : SS} (hw : ∀ d, wipeS [i] (S0.set i (some (.sh, d))) = S0) : ∀ (ds acc : List D), (∀ d ∈ ds, te (S0.set i (some (.sh, d))) = .ok ((.sh, f d), S0.set i (some (.sh, d)))) → acc.length + ds.length ≤ sizeLine → lcD [i] (gNm i) ftYes te ds acc S0 = .ok (acc ++ ds.map f, S0)
  | [], acc, _, _ => by simp [lcD]
  | d :: ds, acc, h, hs => by
    rw [lcD]
    have e := h d List.mem_cons_self
    simp only [List.length_cons] at hs
    have hl : acc.length < sizeLine := by omega
    simp only [gNm, ex_bind, ftYes, if_true, e, give_sh, hl, hw]
    rw [lc_map hw ds _ (fun x hx => h x (List.mem_cons_of_mem _ hx)) (by simp; omega)]
    simp
/-! the law's sameness -/
theorem same_bl (n : Nat) (b : Bool) : m__law_same (n + 1) [(.sh, .bool b), (.sh, .bool b)] = .ok ((.sh, .bool true), []) := by
  rw [m__law_same]
  unfold b__law_same
  cases b <;> simp [semIsT, PT5.is]
theorem same_int (n : Nat) (i : Int) : m__law_same (n + 1) [(.sh, .int i), (.sh, .int i)] = .ok ((.sh, .bool true), []) := by
  rw [m__law_same]
  unfold b__law_same
  simp [semIsT, PT5.is]
theorem same_dR (n : Nat) (r : Int × Int) : m__law_same (n + 2) [(.sh, dR r), (.sh, dR r)] = .ok ((.sh, .bool true), []) := by
  have h := same_int n
  rw [m__law_same]
  unfold b__law_same
  have h2 : onD rng1 [(.sh, .int 2)] = .ok [.int 0, .int 1] := rng_ok (m := .sh) (n := 2) (by decide)
  simp only [dR]
  simp [semIsT, PT5.is, semLen, semAll, fLc, lcD, fiA, h2, h, List.range_succ, ftYes, wipeS, msk, inP, mrg, kidsL, kids, boolsOf, show 0 < sizeLine by decide, show 1 < sizeLine by decide]
  done
end Yk65
set_option maxRecDepth 100000
set_option maxHeartbeats 4000000
namespace Yk65
open PySem O
/-! numbers and ratios -/
def isI : D → Bool
  | .int _ => true
  | _ => false
def isNum (lo hi : Int) : D → Bool
  | .int i => decide (lo ≤ i) && decide (i ≤ hi)
  | _ => false
theorem is_number_ok (v : D) (lo hi : Int) : m_is_number [(.sh, v), (.sh, .int lo), (.sh, .int hi)] = .ok ((.sh, .bool (isNum lo hi v)), []) := by
  unfold m_is_number b_is_number isNum
  cases v with
  | int i => by_cases h : lo ≤ i <;> simp [semIsT, PT5.is, h]
  | _ => simp [semIsT, PT5.is]
def isRat : D → Bool
  | .tuple [.int p, .int q] => decide (0 < q) && (Nat.gcd p.natAbs q.natAbs == 1)
  | _ => false
theorem is_ratio_ok (v : D) : m_is_ratio [(.sh, v)] = .ok ((.sh, .bool (isRat v)), []) := by
  unfold m_is_ratio b_is_ratio
  cases v with
  | tuple ds =>
    match ds with
    | [] => simp [isT_ok, PT5.is, len_tup, isRat]
    | [a] => simp [isT_ok, PT5.is, len_tup, isRat]
    | a :: b :: c :: ds =>
      have h : ¬ ((ds.length : Int) + 1 + 1 + 1 = 2) := by omega
      simp [isT_ok, PT5.is, len_tup, isRat, h]
    | [a, b] =>
      simp
      rw [gb_all1 isI (by intro d _; cases d <;> simp [itD, isI])]
      cases a <;> simp [isI, isRat]
      rename_i p
      cases b <;> simp [isI, isRat]
      rename_i q
      have hc : ∀ g : Nat, decide ((g : Int) = 1) = (g == 1) := fun g => by
        rw [Bool.eq_iff_iff, decide_eq_true_eq, beq_iff_eq]
        omega
      by_cases h : 0 < q <;> simp [h, hc]
  | _ => simp [isT_ok, PT5.is, isRat]
end Yk65
set_option maxRecDepth 100000
set_option maxHeartbeats 4000000
namespace Yk65
open PySem O
def bdI (n : Nat) : D → Prop
  | .int i => i.natAbs < 2 ^ n
  | _ => True
theorem ratio_due_ok (v : D) (hb : ∀ a b, v = .tuple [a, b] → bdI 4000 b) : m__law_ratio_due [(.sh, v)] = .ok ((.sh, .bool (isRat v)), []) := by
  unfold m__law_ratio_due b__law_ratio_due
  cases v with
  | tuple ds =>
    match ds with
    | [] => simp [isRat]
    | [a] => simp [isRat]
    | a :: b :: c :: ds =>
      have h : ¬ ((ds.length : Int) + 1 + 1 + 1 = 2) := by omega
      simp [isRat, h]
    | [a, b] =>
      simp
      rw [lc_map2 (fun d => .bool (isI d)) (by intro d _; cases d <;> simp [itD, isI]) (by simp)]
      have hall := all_map (ds := [a, b]) (f := isI)
      simp only [List.map_cons, List.map_nil, List.all_cons, List.all_nil, Bool.and_true] at hall
      simp [hall]
      cases a <;> simp [isI, isRat]
      rename_i p
      cases b <;> simp [isI, isRat]
      rename_i q
      have hc : ∀ g : Nat, decide ((g : Int) = 1) = (g == 1) := fun g => by
        rw [Bool.eq_iff_iff, decide_eq_true_eq, beq_iff_eq]
        omega
      have hco := common_ok (p := p) (q := q) (hb _ _ rfl)
      by_cases h : 0 < q <;> simp [h, hc, hco]
  | _ => simp [isRat]
end Yk65
set_option maxRecDepth 100000
set_option maxHeartbeats 4000000
namespace Yk65
open PySem O
def MW : Int := 1000000000
theorem kMW : k_MAX_WORTH = .int MW := rfl
def isStep : D → Bool
  | .tuple [.int a, .tuple [.int p, .int q]] => decide (0 ≤ a) && decide (a ≤ MW) && (decide (0 < q) && (Nat.gcd p.natAbs q.natAbs == 1)) && (decide (0 ≤ p) && decide (p ≤ q))
  | _ => false
theorem isRat_shape {v : D} (h : isRat v = true) : ∃ p q, v = dR (p, q) ∧ 0 < q ∧ Nat.gcd p.natAbs q.natAbs = 1 := by
  unfold isRat at h
  split at h
  · rename_i p q
    simp at h
    exact ⟨p, q, rfl, h.1, h.2⟩
  · cases h
theorem isNum_shape {v : D} {lo hi : Int} (h : isNum lo hi v = true) : ∃ i, v = .int i ∧ lo ≤ i ∧ i ≤ hi := by
  unfold isNum at h
  split at h
  · rename_i i
    simp at h
    exact ⟨i, rfl, h.1, h.2⟩
  · cases h
theorem isStep_eq (a r : D) : isStep (.tuple [a, r]) = (isNum 0 MW a && isRat r && (match r with
    | .tuple [.int p, .int q] => decide (0 ≤ p) && decide (p ≤ q)
    | _ => false)) := by
  cases a with
  | int a =>
    cases r with
    | tuple ds =>
      match ds with
      | [] => simp [isStep, isNum]
      | [x] => simp [isStep, isNum]
      | x :: y :: z :: ds => simp [isStep, isNum]
      | [x, y] => cases x <;> cases y <;> simp [isStep, isNum, isRat]
    | _ => simp [isStep, isNum]
  | _ => simp [isStep, isNum]
theorem is_step_ok (v : D) (hb : bdD 4000 v) : m_is_step [(.sh, v)] = .ok ((.sh, .bool (isStep v)), []) := by
  unfold m_is_step b_is_step
  cases v with
  | tuple ds =>
    match ds, hb with
    | [], _ => simp [isStep]
    | [a], _ => simp [isStep]
    | a :: b :: c :: ds, _ =>
      have h : ¬ ((ds.length : Int) + 1 + 1 + 1 = 2) := by omega
      simp [isStep, h]
    | [a, r], hb =>
      have hn := is_number_ok a 0 MW
      have hr := is_ratio_ok r
      rw [isStep_eq]
      cases h1 : isNum 0 MW a with
      | false =>
        rw [h1] at hn
        simp [kMW, hn]
      | true =>
        rw [h1] at hn
        cases h2 : isRat r with
        | false =>
          rw [h2] at hr
          simp [kMW, hn, hr]
        | true =>
          rw [h2] at hr
          obtain ⟨p, q, rfl, hq, hg⟩ := isRat_shape h2
          have hb' : p.natAbs < 2 ^ 4000 ∧ q.natAbs < 2 ^ 4000 := by
            simp only [dR, bdD_tup, bdAll, bdD_int] at hb
            exact ⟨hb.2.1.1, hb.2.1.2.1⟩
          have l1 := less_ok (r := (p, q)) (s := (0, 1)) (b_mono hb'.1 (by omega)) (b_mono hb'.2 (by omega)) (b_mono (a := 1) (by decide) (by omega)) (b_mono (a := 1) (by decide) (by omega))
          have l2 := less_ok (r := (1, 1)) (s := (p, q)) (b_mono (a := 1) (by decide) (by omega)) (b_mono (a := 1) (by decide) (by omega)) (b_mono hb'.1 (by omega)) (b_mono hb'.2 (by omega))
          simp only [dR] at l1 l2 hr ⊢
          simp at l1 l2
          by_cases h3 : p < 0
          · have : ¬ (0 ≤ p) := by omega
            simp [kMW, k_NOTHING, k_ONE, hn, hr, l1, h3, this]
          · have h4 : 0 ≤ p := by omega
            by_cases h5 : q < p
            · have h6 : ¬ p ≤ q := by omega
              simp [kMW, k_NOTHING, k_ONE, hn, hr, l1, l2, h3, h4, h5, h6]
            · have h6 : p ≤ q := by omega
              simp [kMW, k_NOTHING, k_ONE, hn, hr, l1, l2, h3, h4, h5, h6]
  | _ => simp [isStep]
end Yk65
set_option maxRecDepth 100000
set_option maxHeartbeats 4000000
namespace Yk65
open PySem O
def startD : D → Int
  | .tuple (.int a :: _) => a
  | _ => 0
def startAt (ds : List D) (k : Nat) : Int := match ds[k]? with
  | some d => startD d
  | none => 0
def ascAt (ds : List D) : D → Bool
  | .int i => decide (startAt ds i.toNat < startAt ds (i.toNat + 1))
  | _ => false
def ascAll (ds : List D) : Bool := (natsD (ds.length - 1)).all (ascAt ds)
def isScale : D → Bool
  | .tuple ds => decide (1 ≤ ds.length) && decide (ds.length ≤ 12) && ds.all isStep && decide (startAt ds 0 = 0) && ascAll ds
  | _ => false
theorem isStep_shape {d : D} (h : isStep d = true) : ∃ a p q, d = .tuple [.int a, dR (p, q)] ∧ 0 ≤ a ∧ a ≤ MW ∧ 0 < q ∧ Nat.gcd p.natAbs q.natAbs = 1 ∧ 0 ≤ p ∧ p ≤ q := by
  unfold isStep at h
  split at h
  · rename_i a p q
    simp at h
    exact ⟨a, p, q, rfl, h.1.1.1, h.1.1.2, h.1.2.1, h.1.2.2, h.2.1, h.2.2⟩
  · cases h
theorem ix_start {d : D} {m : Md} (h : isStep d = true) : semIx (.sh, d) (m, .int 0) = .ok (.sh, .int (startD d)) := by
  obtain ⟨a, p, q, rfl, _⟩ := isStep_shape h
  simp [startD]
theorem startAt_eq {ds : List D} {k : Nat} (h : k < ds.length) : startAt ds k = startD ds[k] := by
  unfold startAt
  rw [List.getElem?_eq_getElem h]
theorem rngm1 {n : Nat} {m : Md} (h1 : 1 ≤ n) (h2 : n ≤ 12) : onD rng1 [(m, .int ((n : Int) - 1))] = .ok (natsD (n - 1)) := by
  have e : ((n : Int) - 1) = ((n - 1 : Nat) : Int) := by omega
  rw [e]
  exact rng_ok4 (by omega)
theorem ltT {n : Nat} : decide ((1 : Int) ≤ (n : Int)) = decide (1 ≤ n) := by
  rw [decide_eq_decide]; omega
theorem le12 {n : Nat} : decide ((n : Int) ≤ 12) = decide (n ≤ 12) := by
  rw [decide_eq_decide]; omega
theorem is_scale_ok (v : D) (hb : bdD 4000 v) : m_is_scale [(.sh, v)] = .ok ((.sh, .bool (isScale v)), []) := by
  unfold m_is_scale b_is_scale
  cases v with
  | tuple ds =>
    by_cases h1 : 1 ≤ ds.length
    · by_cases h2 : ds.length ≤ 12
      · have hc1 : (1 : Int) ≤ ds.length := by omega
        have hc2 : (ds.length : Int) ≤ 12 := by omega
        have hs : ∀ d ∈ ds, m_is_step [(.sh, d)] = .ok ((.sh, .bool (isStep d)), []) := fun d hd => is_step_ok d (bdAll_iff.mp (by simpa using hb) d hd)
        have e1 : gbD false [1] (gNm 1) ftYes (fCall 1 [] m_is_step (aCons (oV (fVar 1)) (aNil))) ds [some (.sh, .tuple ds), none, none] = .ok (ds.all isStep, [some (.sh, .tuple ds), none, none]) :=
          gb_all1 isStep (by intro d hd; simp [itD, hs d hd])
        cases ha : ds.all isStep with
        | false =>
          rw [ha] at e1
          simp [k_MAX_STEPS, hc1, hc2, e1, isScale, ha]
        | true =>
          rw [ha] at e1
          have hall : ∀ d ∈ ds, isStep d = true := List.all_eq_true.mp ha
          have h0 : semIx (.sh, .tuple ds) (.sh, .int 0) = .ok (.sh, ds[0]) := ix_tup (i := 0) (by omega)
          have hst0 := ix_start (m := .sh) (hall _ (List.getElem_mem (l := ds) (n := 0) (by omega)))
          have hs0 : startAt ds 0 = startD ds[0] := startAt_eq (by omega)
          have hr := rngm1 (m := .sh) h1 h2
          have e2 : gbD false [2] (gNm 2) ftYes (fOp2 semLt (oV (fOp2 semIx (oV (fOp2 semIx (oP 0) (oP 2))) (oV (fCon (.int 0))))) (oV (fOp2 semIx (oV (fOp2 semIx (oP 0) (oV (fOp2 semAdd (oP 2) (oV (fCon (.int 1))))))) (oV (fCon (.int 0)))))) (natsD (ds.length - 1)) [some (.sh, .tuple ds), none, none] = .ok (ascAll ds, [some (.sh, .tuple ds), none, none]) :=
            gb_all1 (ascAt ds) (by
              intro d hd
              obtain ⟨i, hi, rfl⟩ := mem_natsD hd
              have q1 := ix_tup (m := .sh) (l := ds) (i := i) (by omega)
              have q2 := ix_tup1 (m := .sh) (l := ds) (i := i) (by omega)
              have q3 := ix_start (m := .sh) (hall _ (List.getElem_mem (l := ds) (n := i) (by omega)))
              have q4 := ix_start (m := .sh) (hall _ (List.getElem_mem (l := ds) (n := i + 1) (by omega)))
              have q5 := startAt_eq (ds := ds) (k := i) (by omega)
              have q6 := startAt_eq (ds := ds) (k := i + 1) (by omega)
              simp [itD, q1, q2, q3, q4, ascAt, q5, q6])
          by_cases hz : startD ds[0] = 0
          · simp [k_MAX_STEPS, hc1, hc2, e1, isScale, ha, h0, hst0, hs0, hr, e2, h1, h2, hz]
          · simp [k_MAX_STEPS, hc1, hc2, e1, isScale, ha, h0, hst0, hs0, hr, e2, h1, h2, hz]
      · have hc1 : (1 : Int) ≤ ds.length := by omega
        have hc2 : ¬ (ds.length : Int) ≤ 12 := by omega
        simp [k_MAX_STEPS, hc1, hc2, isScale, h2]
    · have hc1 : ¬ (1 : Int) ≤ ds.length := by omega
      simp [hc1, isScale, h1]
  | _ => simp [isScale]
end Yk65
set_option maxRecDepth 100000
set_option maxHeartbeats 4000000
namespace Yk65
open PySem O
def dueBody : FS := (sSeq (sIf (fOrT (fNotT (tB1 (fO1 (semIsT .tuple) (oP 1)))) (fOrT (tB1 (fOp2 semNe (oV (fN semLen (aCons (oP 1) (aNil)))) (oV (fCon (.int 2))))) (fOrT (fNotT (tB1 (fO1 (semIsT .int) (oV (fOp2 semIx (oP 1) (oV (fCon (.int 0)))))))) (tB1 (fO1 (semIsT .bool) (oV (fOp2 semIx (oP 1) (oV (fCon (.int 0)))))))))) (sRet (fCon (.bool false))) (sNil)) (
  sIf (fOrT (fNotT (tB1 (fChain semLeI semLeI (oV (fCon (.int 0))) (oV (fOp2 semIx (oP 1) (oV (fCon (.int 0))))) (oV (fCon (.int 1000000000)))))) (fOrT (fNotT (tB1 (fCall 1 [] m__law_ratio_due (aCons (oV (fOp2 semIx (oP 1) (oV (fCon (.int 1))))) (aNil))))) (fNotT (tB1 (fChain semLeI semLeI (oV (fCon (.int 0))) (oV (fOp2 semIx (oV (fOp2 semIx (oP 1) (oV (fCon (.int 1))))) (oV (fCon (.int 0))))) (oV (fOp2 semIx (oV (fOp2 semIx (oP 1) (oV (fCon (.int 1))))) (oV (fCon (.int 1)))))))))) (sRet (fCon (.bool false))) (sNil)))
theorem leMW (a : Int) : decide (a ≤ 1000000000) = decide (a ≤ MW) := rfl
theorem dueBody_ok (v d : D) (hb : bdD 4000 d) : dueBody [some (.sh, v), some (.sh, d), none] = .ok (if isStep d then .nx else .rt (.sh, .bool false), [some (.sh, v), some (.sh, d), none]) := by
  unfold dueBody
  cases d with
  | tuple ds =>
    match ds, hb with
    | [], _ => simp [isStep]
    | [a], _ => simp [isStep]
    | a :: b :: c :: ds, _ =>
      have h : ¬ ((ds.length : Int) + 1 + 1 + 1 = 2) := by omega
      simp [isStep, h]
    | [a, r], hb =>
      have hr := ratio_due_ok r (fun x y e => by
        subst e
        simp only [bdD_tup, bdAll] at hb
        have := hb.2.1.2.1
        cases y <;> simp [bdI]
        simpa using this)
      rw [isStep_eq]
      cases a with
      | int a =>
        by_cases h1 : 0 ≤ a
        · by_cases h2 : a ≤ MW
          · have h2' : a ≤ 1000000000 := h2
            cases h3 : isRat r with
            | false =>
              rw [h3] at hr
              simp [h1, h2', hr]
            | true =>
              rw [h3] at hr
              obtain ⟨p, q, rfl, hq, hg⟩ := isRat_shape h3
              simp only [dR] at hr ⊢
              by_cases h4 : 0 ≤ p
              · by_cases h5 : p ≤ q
                · simp [h1, h2', hr, h4, h5, isNum, h2]
                · simp [h1, h2', hr, h4, h5, isNum, h2]
              · simp [h1, h2', hr, h4, isNum, h2]
          · have h2' : ¬ a ≤ 1000000000 := h2
            simp [h1, h2', isNum, h2]
        · simp [h1, isNum]
      | _ => simp [isNum]
  | _ => simp [isStep]
theorem scale_due_ok (v : D) (hb : bdD 4000 v) : m__law_scale_due [(.sh, v)] = .ok ((.sh, .bool (isScale v)), []) := by
  unfold m__law_scale_due b__law_scale_due
  cases v with
  | tuple ds =>
    by_cases h1 : 1 ≤ ds.length
    · by_cases h2 : ds.length ≤ 12
      · have hc1 : (1 : Int) ≤ ds.length := by omega
        have hc2 : (ds.length : Int) ≤ 12 := by omega
        have hloop := for_inv (g := gNm 1) (body := dueBody) (Inv := fun rest S => ∃ x, S = [some (.sh, .tuple ds), x, none] ∧ ds.all isStep = rest.all isStep ∧ ∀ d ∈ rest, d ∈ ds)
          (Post := fun fl S => if ds.all isStep then fl = .nx ∧ ∃ x, S = [some (.sh, .tuple ds), x, none] else fl = .rt (.sh, .bool false)) (by
            rintro d rest S ⟨x, rfl, ha, hm⟩
            refine ⟨_, _, _, rfl, dueBody_ok (.tuple ds) d (bdAll_iff.mp (by simpa using hb) d (hm d List.mem_cons_self)), ?_⟩
            cases hd : isStep d with
            | true => exact ⟨_, rfl, by rw [ha, List.all_cons, hd, Bool.true_and], fun e he => hm e (List.mem_cons_of_mem _ he)⟩
            | false =>
              have : ds.all isStep = false := by rw [ha, List.all_cons, hd, Bool.false_and]
              simp [this]) (by
            rintro S ⟨x, rfl, ha, hm⟩
            have : ds.all isStep = true := by rw [ha]; rfl
            simp [this]) (ds := ds) (S := [some (.sh, .tuple ds), none, none]) ⟨none, rfl, rfl, fun d hd => hd⟩
        obtain ⟨fl, S', e1, hp⟩ := hloop
        unfold dueBody at e1
        cases ha : ds.all isStep with
        | false =>
          rw [ha] at hp
          have hp : fl = .rt (.sh, .bool false) := by simpa using hp
          subst hp
          simp [hc1, hc2, e1, isScale, ha]
        | true =>
          rw [ha] at hp
          obtain ⟨rfl, x, rfl⟩ : fl = .nx ∧ ∃ x, S' = [some (.sh, .tuple ds), x, none] := by simpa using hp
          have hall : ∀ d ∈ ds, isStep d = true := List.all_eq_true.mp ha
          have h0 : semIx (.sh, .tuple ds) (.sh, .int 0) = .ok (.sh, ds[0]) := ix_tup (i := 0) (by omega)
          have hst0 := ix_start (m := .sh) (hall _ (List.getElem_mem (l := ds) (n := 0) (by omega)))
          have hs0 : startAt ds 0 = startD ds[0] := startAt_eq (by omega)
          have hr := rngm1 (m := .sh) h1 h2
          have e2 : lcD [2] (gNm 2) ftYes (fOp2 semLt (oV (fOp2 semIx (oV (fOp2 semIx (oP 0) (oP 2))) (oV (fCon (.int 0))))) (oV (fOp2 semIx (oV (fOp2 semIx (oP 0) (oV (fOp2 semAdd (oP 2) (oV (fCon (.int 1))))))) (oV (fCon (.int 0)))))) (natsD (ds.length - 1)) [] [some (.sh, .tuple ds), x, none] = .ok ((natsD (ds.length - 1)).map (fun d => .bool (ascAt ds d)), [some (.sh, .tuple ds), x, none]) :=
            lc_map2 (fun d => .bool (ascAt ds d)) (by
              intro d hd
              obtain ⟨i, hi, rfl⟩ := mem_natsD hd
              have q1 := ix_tup (m := .sh) (l := ds) (i := i) (by omega)
              have q2 := ix_tup1 (m := .sh) (l := ds) (i := i) (by omega)
              have q3 := ix_start (m := .sh) (hall _ (List.getElem_mem (l := ds) (n := i) (by omega)))
              have q4 := ix_start (m := .sh) (hall _ (List.getElem_mem (l := ds) (n := i + 1) (by omega)))
              have q5 := startAt_eq (ds := ds) (k := i) (by omega)
              have q6 := startAt_eq (ds := ds) (k := i + 1) (by omega)
              simp [itD, q1, q2, q3, q4, ascAt, q5, q6]) (by simp; omega)
          have e3 := all_map (ds := natsD (ds.length - 1)) (f := ascAt ds)
          by_cases hz : startD ds[0] = 0
          rotate_left
          · simp [hc1, hc2, e1, isScale, ha, h0, hst0, hs0, h1, h2, hz]
          · simp [hc1, hc2, e1, isScale, ha, h0, hst0, hs0, h1, h2, hz, hr, e2, e3, ascAll]
      · have hc1 : (1 : Int) ≤ ds.length := by omega
        have hc2 : ¬ (ds.length : Int) ≤ 12 := by omega
        simp [hc1, hc2, isScale, h2]
    · have hc1 : ¬ (1 : Int) ≤ ds.length := by omega
      simp [hc1, isScale, h1]
  | _ => simp [isScale]
end Yk65
set_option maxRecDepth 100000
set_option maxHeartbeats 4000000
namespace Yk65
open PySem O
@[simp] theorem draw_ok (b : Bx) {k : Int} (h : 0 < k) (hk : k < 2 ^ 200) : m__law_draw [(.bx, dB b), (.sh, .int k)] = .ok ((.sh, .int (b.dig k)), [(.bx, dB (b.nxt k))]) := bDraw_ok b h hk
theorem bdD_mono {a b : Nat} (h : a ≤ b) : ∀ d : D, bdD a d → bdD b d := by
  have key : ∀ n : Nat, ∀ d : D, sizeOf d ≤ n → bdD a d → bdD b d := by
    intro n
    induction n with
    | zero => intro d hs; cases d <;> simp at hs
    | succ n ih =>
      intro d hs hd
      cases d with
      | int i => simp only [bdD_int] at hd ⊢; exact b_mono hd h
      | tuple ds =>
        rw [bdD_tup, bdAll_iff] at hd ⊢
        intro x hx
        have := List.sizeOf_lt_of_mem hx
        exact ih x (by simp at hs; omega) (hd x hx)
      | list ds =>
        rw [bdD_lst, bdAll_iff] at hd ⊢
        intro x hx
        have := List.sizeOf_lt_of_mem hx
        exact ih x (by simp at hs; omega) (hd x hx)
      | _ => simp [bdD]
  exact fun d => key _ d (Nat.le_refl _)
inductive Tin : Nat → D → Prop
  | int {n i} : i.natAbs < 2 ^ 150 → Tin (n + 1) (.int i)
  | tup {n ds} : ds.length ≤ 1000 → (∀ d ∈ ds, Tin n d) → Tin (n + 1) (.tuple ds)
theorem Tin.bd : ∀ {n : Nat} {d : D}, Tin n d → bdD 150 d
  | _, _, .int h => by simpa using h
  | _, _, .tup _ h => by
    rw [bdD_tup, bdAll_iff]
    exact fun x hx => (h x hx).bd
theorem bdAll_of {n : Nat} {ds : List D} (h : ∀ d ∈ ds, bdD n d) : bdAll n ds := bdAll_iff.mpr h
theorem bent_ok : ∀ (n : Nat) (v : D) (b : Bx), Tin n v → ∃ u b', m__law_bent n [(.bx, dB b), (.sh, v)] = .ok ((.sh, u), [(.bx, dB b')]) ∧ bdD 160 u
  | _, .int i, b, .int (n := n) hi => by
    have hdig0 := b.dig_nn (k := 8) (by decide)
    have hdig1 := b.dig_lt (k := 8) (by decide)
    have hs := str_ok (m := .sh) (b_mono hi (b := 1900) (by decide))
    obtain ⟨d, hd, e⟩ := pick_ow (l := [.int (i + 1), .int (i - 1), .int (-i), .bool (decide (i = 1)), .none, .str (Str.ofString i.repr), .tuple [.int i], .int (i + 1001)]) hdig0 (by simpa using hdig1)
    refine ⟨d, b.nxt 8, ?_, ?_⟩
    · rw [m__law_bent]
      unfold b__law_bent
      simp [hs, e]
    · simp only [List.mem_cons, List.not_mem_nil, or_false] at hd
      rcases hd with rfl | rfl | rfl | rfl | rfl | rfl | rfl | rfl <;> simp [bdD, bdAll] <;> omega
  | _, .tuple ds, b, .tup (n := n) hl ht => by
    have hbd : ∀ d ∈ ds, bdD 160 d := fun d hd => bdD_mono (by decide) d (ht d hd).bd
    by_cases hc : 0 < ds.length ∧ 0 < b.dig 5
    · have h0 : (0 : Int) < ds.length := by omega
      have hk : (ds.length : Int) < 2 ^ 200 := by omega
      have hdig0 := (b.nxt 5).dig_nn h0
      have hdig1 := (b.nxt 5).dig_lt h0
      obtain ⟨d, hd, e⟩ := pick_tup hdig0 hdig1
      obtain ⟨u, b', e2, hu⟩ := bent_ok n d ((b.nxt 5).nxt ds.length) (ht d hd)
      generalize hat : (b.nxt 5).dig (ds.length : Int) = at_ at *
      have l1 := len_cutD (ds := ds) (lo := none) (hi := some at_)
      have l2 := len_cutD (ds := ds) (lo := some (at_ + 1)) (hi := none)
      have a1 := add_tup (xs := cutD ds none (some at_)) (ys := [u]) (by simp; omega)
      have a2 := add_tup (xs := cutD ds none (some at_) ++ [u]) (ys := cutD ds (some (at_ + 1)) none) (by simp; omega)
      refine ⟨.tuple (cutD ds none (some at_) ++ [u] ++ cutD ds (some (at_ + 1)) none), b', ?_, ?_⟩
      · rw [m__law_bent]
        unfold b__law_bent
        have hdr := draw_ok (b.nxt 5) h0 hk
        rw [hat] at hdr
        have hlen : 0 < ds.length := hc.1
        simp [hlen, hc.2, hdr, e, e2, a1, a2]
      · rw [bdD_tup]
        refine bdAll_of fun x hx => ?_
        rcases List.mem_append.mp hx with hx | hx
        · rcases List.mem_append.mp hx with hx | hx
          · exact hbd x (mem_cutD hx)
          · rw [List.mem_singleton.mp hx]; exact hu
        · exact hbd x (mem_cutD hx)
    · have hs1 : ¬ (0 < ds.length ∧ 0 < b.dig 5) := hc
      have l1 := len_cutD (ds := ds) (lo := none) (hi := some 1)
      have a1 := add_tup (xs := ds) (ys := cutD ds none (some 1)) (by omega)
      have a2 := add_tup (xs := ds) (ys := [.int 0]) (by simp; omega)
      have a3 := add_tup (xs := cutD ds none (some 1)) (ys := ds) (by omega)
      have key : ∀ b1 : Bx, ∃ d, bdD 160 d ∧ ∀ m, semIx (.ow .sh, .list [.tuple (ds ++ cutD ds none (some 1)), .tuple (cutD ds (some 1) none), .tuple ds.reverse, .tuple (ds ++ [.int 0]), .tuple (cutD ds none (some 1) ++ ds), .tuple (cutD ds none (some (-1))), .none, .tuple (cutD ds none (some 1))]) (m, .int (b1.dig 8)) = .ok (.sh, d) := fun b1 => by
        obtain ⟨d, hd, e⟩ := pick_ow (l := [.tuple (ds ++ cutD ds none (some 1)), .tuple (cutD ds (some 1) none), .tuple ds.reverse, .tuple (ds ++ [.int 0]), .tuple (cutD ds none (some 1) ++ ds), .tuple (cutD ds none (some (-1))), .none, .tuple (cutD ds none (some 1))]) (b1.dig_nn (k := 8) (by decide)) (by simpa using b1.dig_lt (k := 8) (by decide))
        refine ⟨d, ?_, e⟩
        have c1 : ∀ lo hi, ∀ x ∈ cutD ds lo hi, bdD 160 x := fun lo hi x hx => hbd x (mem_cutD hx)
        simp only [List.mem_cons, List.not_mem_nil, or_false] at hd
        rcases hd with rfl | rfl | rfl | rfl | rfl | rfl | rfl | rfl
        · rw [bdD_tup]
          refine bdAll_of fun x hx => ?_
          rcases List.mem_append.mp hx with hx | hx
          · exact hbd x hx
          · exact c1 _ _ x hx
        · rw [bdD_tup]; exact bdAll_of (c1 _ _)
        · rw [bdD_tup]; exact bdAll_of fun x hx => hbd x (List.mem_reverse.mp hx)
        · rw [bdD_tup]
          refine bdAll_of fun x hx => ?_
          rcases List.mem_append.mp hx with hx | hx
          · exact hbd x hx
          · rw [List.mem_singleton.mp hx]; simp
        · rw [bdD_tup]
          refine bdAll_of fun x hx => ?_
          rcases List.mem_append.mp hx with hx | hx
          · exact c1 _ _ x hx
          · exact hbd x hx
        · rw [bdD_tup]; exact bdAll_of (c1 _ _)
        · simp [bdD]
        · rw [bdD_tup]; exact bdAll_of (c1 _ _)
      by_cases h0 : 0 < ds.length
      · have h5 : ¬ 0 < b.dig 5 := fun h => hc ⟨h0, h⟩
        obtain ⟨u, hu, e⟩ := key (b.nxt 5)
        refine ⟨u, (b.nxt 5).nxt 8, ?_, hu⟩
        rw [m__law_bent]
        unfold b__law_bent
        simp [h0, h5, a1, a2, a3, e]
      · obtain ⟨u, hu, e⟩ := key b
        refine ⟨u, b.nxt 8, ?_, hu⟩
        rw [m__law_bent]
        unfold b__law_bent
        simp [h0, a1, a2, a3, e]
end Yk65
set_option maxRecDepth 100000
set_option maxHeartbeats 4000000
namespace Yk65
open PySem O
theorem integer_ok (b : Bx) : ∃ i b', m__law_integer [(.bx, dB b)] = .ok ((.sh, .int i), [(.bx, dB b')]) ∧ i.natAbs < 2 ^ 120 := by
  obtain ⟨d, hd, e⟩ := pick_ow (l := [.int 3, .int 13, .int 10000, .int 10000000000, .int 1000000000000000000000000000000]) (b.dig_nn (k := 5) (by decide)) (by simpa using b.dig_lt (k := 5) (by decide))
  obtain ⟨t, rfl, h0, h1⟩ : ∃ t : Int, d = .int t ∧ 0 < t ∧ t ≤ 1000000000000000000000000000000 := by
    simp only [List.mem_cons, List.not_mem_nil, or_false] at hd
    rcases hd with rfl | rfl | rfl | rfl | rfl <;> exact ⟨_, rfl, by omega, by omega⟩
  have ht : t < 2 ^ 200 := by omega
  have d0 := (b.nxt 5).dig_nn h0
  have d1 := (b.nxt 5).dig_lt h0
  have hdr := draw_ok (b.nxt 5) h0 ht
  generalize (b.nxt 5).dig t = g at *
  generalize (b.nxt 5).nxt t = b2 at *
  have hdv : DvOk 2 := divOk_of (by decide) (by decide)
  have ef : t.fdiv 2 = t / 2 := fdiv_pos (by decide)
  obtain ⟨d', hd', e'⟩ := pick_ow (l := [.int 0, .int 0, .int (t / 2)]) (b2.dig_nn (k := 3) (by decide)) (by simpa using b2.dig_lt (k := 3) (by decide))
  obtain ⟨u, rfl, h2, h3⟩ : ∃ u : Int, d' = .int u ∧ 0 ≤ u ∧ u ≤ t := by
    simp only [List.mem_cons, List.not_mem_nil, or_false] at hd'
    rcases hd' with rfl | rfl | rfl <;> exact ⟨_, rfl, by omega, by omega⟩
  refine ⟨g - u, b2.nxt 3, ?_, by omega⟩
  unfold m__law_integer b__law_integer
  simp [e, hdr, hdv, ef, e']
/-! the fee -/
structure Stp where
  at_ : Int
  num : Int
  den : Int
def dS (s : Stp) : D := .tuple [.int s.at_, dR (s.num, s.den)]
def dSc (l : List Stp) : D := .tuple (l.map dS)
structure StpOk (s : Stp) : Prop where
  a0 : 0 ≤ s.at_
  a1 : s.at_ ≤ 1000000000
  n0 : 0 ≤ s.num
  n1 : s.num ≤ s.den
  d0 : 0 < s.den
  d1 : s.den ≤ 1000
  cop : Nat.gcd s.num.natAbs s.den.natAbs = 1
def endAt (l : List Stp) : Int := match l with
  | [] => 1000000000
  | s :: _ => s.at_
def partOf (s : Stp) (rest : List Stp) (w : Int) : Int := max 0 (min w (endAt rest) - s.at_)
def feeG : List Stp → Int → Int × Int → Int × Int
  | [], _, r => r
  | s :: rest, w, (p, q) => feeG rest w (p * s.den + partOf s rest w * s.num * q, q * s.den)
/-- bounds that the sums keep -/
def SumOk (k : Nat) (r : Int × Int) : Prop := 0 ≤ r.1 ∧ r.1.natAbs < 2 ^ (50 * k + 1) ∧ 0 < r.2 ∧ r.2.natAbs < 2 ^ (10 * k + 1)
theorem part_bd {s : Stp} {rest : List Stp} {w : Int} (hs : StpOk s) (hr : ∀ t ∈ rest, StpOk t) : 0 ≤ partOf s rest w ∧ partOf s rest w ≤ 1000000000 := by
  have he : endAt rest ≤ 1000000000 := by
    cases rest with
    | nil => exact Int.le_refl _
    | cons t _ => exact (hr t List.mem_cons_self).a1
  have := hs.a0
  unfold partOf
  omega
theorem SumOk.step {k : Nat} {r : Int × Int} {s : Stp} {x : Int} (h : SumOk k r) (hs : StpOk s) (h0 : 0 ≤ x) (h1 : x ≤ 1000000000) : SumOk (k + 1) (r.1 * s.den + x * s.num * r.2, r.2 * s.den) := by
  obtain ⟨p0, p1, q0, q1⟩ := h
  have d0 := hs.d0
  have d1 := hs.d1
  have n0 := hs.n0
  have n1 := hs.n1
  have hd : s.den.natAbs < 2 ^ 10 := by omega
  have hn : s.num.natAbs < 2 ^ 10 := by omega
  have hx : x.natAbs < 2 ^ 30 := by omega
  have b1 := b_mul p1 hd
  have b2 := b_mul (b_mul hx hn) q1
  have b3 := b_mul q1 hd
  have b4 := b_add (b_mono b1 (b := 50 * k + 50) (by omega)) (b_mono b2 (b := 50 * k + 50) (by omega))
  refine ⟨?_, b_mono b4 (by omega), Int.mul_pos q0 d0, b_mono b3 (by omega)⟩
  exact Int.add_nonneg (Int.mul_nonneg p0 (by omega)) (Int.mul_nonneg (Int.mul_nonneg h0 n0) (by omega))
theorem feeG_ok : ∀ {l : List Stp} {w : Int} {k : Nat} {r : Int × Int}, (∀ s ∈ l, StpOk s) → SumOk k r → SumOk (k + l.length) (feeG l w r)
  | [], w, k, r, _, h => h
  | s :: rest, w, k, (p, q), hl, h => by
    have hb := part_bd (w := w) (hl s List.mem_cons_self) fun t ht => hl t (List.mem_cons_of_mem _ ht)
    have := feeG_ok (l := rest) (w := w) (fun t ht => hl t (List.mem_cons_of_mem _ ht)) (h.step (hl s List.mem_cons_self) hb.1 hb.2)
    rw [List.length_cons, show k + (rest.length + 1) = k + 1 + rest.length by omega]
    exact this
theorem feeG_den : ∀ {l : List Stp} {w w' : Int} {r r' : Int × Int}, r.2 = r'.2 → (feeG l w r).2 = (feeG l w' r').2
  | [], w, w', r, r', h => h
  | s :: rest, w, w', (p, q), (p', q'), h => by
    have h : q = q' := h
    subst h
    exact feeG_den (l := rest) rfl
theorem feeG_mono : ∀ {l : List Stp} {w w' : Int} {r r' : Int × Int}, (∀ s ∈ l, StpOk s) → w ≤ w' → r.2 = r'.2 → 0 < r.2 → r.1 ≤ r'.1 → (feeG l w r).1 ≤ (feeG l w' r').1
  | [], w, w', r, r', _, _, _, _, h => h
  | s :: rest, w, w', (p, q), (p', q'), hl, hw, hq, h0, hp => by
    have hq : q = q' := hq
    subst hq
    have hs := hl s List.mem_cons_self
    have d0 := hs.d0
    refine feeG_mono (l := rest) (fun t ht => hl t (List.mem_cons_of_mem _ ht)) hw rfl (Int.mul_pos h0 d0) ?_
    have hpart : partOf s rest w ≤ partOf s rest w' := by unfold partOf; omega
    have e1 : p * s.den ≤ p' * s.den := Int.mul_le_mul_of_nonneg_right hp (by omega)
    have e2 : partOf s rest w * s.num * q ≤ partOf s rest w' * s.num * q := Int.mul_le_mul_of_nonneg_right (Int.mul_le_mul_of_nonneg_right hpart hs.n0) (by have : 0 < q := h0; omega)
    show p * s.den + partOf s rest w * s.num * q ≤ p' * s.den + partOf s rest w' * s.num * q
    omega
end Yk65
set_option maxRecDepth 100000
set_option maxHeartbeats 4000000
namespace Yk65
open PySem O
def feeBody : FS := (sSeq (sAsg (gNm 5) (fIf (tB1 (fOp2 semLt (oV (fOp2 semAdd (oP 4) (oV (fCon (.int 1))))) (oV (fN semLen (aCons (oP 0) (aNil)))))) (fOp2 semIx (oV (fOp2 semIx (oP 0) (oV (fOp2 semAdd (oP 4) (oV (fCon (.int 1))))))) (oV (fCon (.int 0)))) (fOp2 semPow (oV (fCon (.int 10))) (oV (fCon (.int 9)))))) (
  sSeq (sAsg (gNm 6) (fN semMax2 (aCons (oV (fCon (.int 0))) (aCons (oV (fOp2 semSub (oV (fN semMin2 (aCons (oP 1) (aCons (oP 5) (aNil))))) (oV (fOp2 semIx (oV (fOp2 semIx (oP 0) (oP 4))) (oV (fCon (.int 0))))))) (aNil))))) (
  sSeq (sAsg (gNm 7) (fOp2 semIx (oV (fOp2 semIx (oP 0) (oP 4))) (oV (fCon (.int 1))))) (
  sPar 2 3 (aCons (oV (fOp2 semAdd (oV (fOp2 semMul (oP 2) (oV (fOp2 semIx (oP 7) (oV (fCon (.int 1))))))) (oV (fOp2 semMul (oV (fOp2 semMul (oP 6) (oV (fOp2 semIx (oP 7) (oV (fCon (.int 0))))))) (oP 3))))) (aCons (oV (fOp2 semMul (oP 3) (oV (fOp2 semIx (oP 7) (oV (fCon (.int 1))))))) (aNil)))))))
theorem ixS0 {s : Stp} {m : Md} : semIx (.sh, dS s) (m, .int 0) = .ok (.sh, .int s.at_) := ix0
theorem ixS1 {s : Stp} {m : Md} : semIx (.sh, dS s) (m, .int 1) = .ok (.sh, dR (s.num, s.den)) := ix1
theorem ixR0 {r : Int × Int} {m : Md} : semIx (.sh, dR r) (m, .int 0) = .ok (.sh, .int r.1) := ix0
theorem ixR1 {r : Int × Int} {m : Md} : semIx (.sh, dR r) (m, .int 1) = .ok (.sh, .int r.2) := ix1
theorem ixSc {l : List Stp} {i : Nat} {m : Md} (h : i < l.length) : semIx (.sh, .tuple (l.map dS)) (m, .int i) = .ok (.sh, dS l[i]) := by
  rw [ix_tup (by simpa using h)]; simp
theorem ixSc1 {l : List Stp} {i : Nat} {m : Md} (h : i + 1 < l.length) : semIx (.sh, .tuple (l.map dS)) (m, .int ((i : Int) + 1)) = .ok (.sh, dS l[i + 1]) := ixSc (i := i + 1) h
theorem drop_cons {α : Type} {l : List α} {i : Nat} (h : i < l.length) : l.drop i = l[i] :: l.drop (i + 1) := List.drop_eq_getElem_cons h
theorem end_in {l : List Stp} {i : Nat} (h : i + 1 < l.length) : endAt (l.drop (i + 1)) = l[i + 1].at_ := by
  rw [drop_cons h]; rfl
theorem end_out {l : List Stp} {i : Nat} (h : ¬ i + 1 < l.length) : endAt (l.drop (i + 1)) = 1000000000 := by
  rw [List.drop_eq_nil_of_le (by omega)]; rfl
theorem law_fee_ok {l : List Stp} (hl : ∀ s ∈ l, StpOk s) (hn : l.length ≤ 12) (w : Int) : m__law_fee [(.sh, dSc l), (.sh, .int w)] = .ok ((.sh, dR (low (feeG l w (0, 1)).1 (feeG l w (0, 1)).2)), []) := by
  have hloop := for_inv (g := gNm 4) (body := feeBody) (Inv := fun rest S => ∃ i k, ∃ r : Int × Int, ∃ j4 j5 j6 j7, rest = natsFrom i k ∧ i + k = l.length ∧ S = [some (.sh, dSc l), some (.sh, .int w), some (.sh, .int r.1), some (.sh, .int r.2), j4, j5, j6, j7] ∧ feeG (l.drop i) w r = feeG l w (0, 1) ∧ SumOk i r)
    (Post := fun fl S => fl = .nx ∧ ∃ j4 j5 j6 j7, S = [some (.sh, dSc l), some (.sh, .int w), some (.sh, .int (feeG l w (0, 1)).1), some (.sh, .int (feeG l w (0, 1)).2), j4, j5, j6, j7]) (by
      rintro d rest S ⟨i, k, r, j4, j5, j6, j7, hr, hik, rfl, hf, hs⟩
      cases k with
      | zero => cases hr
      | succ k =>
        obtain ⟨rfl, rfl⟩ := List.cons.inj hr
        have hi : i < l.length := by omega
        have hst := hl l[i] (List.getElem_mem hi)
        rw [drop_cons hi] at hf
        have hb := part_bd (w := w) hst (rest := l.drop (i + 1)) fun t ht => hl t (List.mem_of_mem_drop ht)
        have hs' := hs.step hst hb.1 hb.2
        obtain ⟨p0, p1, q0, q1⟩ := hs
        have d0 := hst.d0
        have d1 := hst.d1
        have n0 := hst.n0
        have n1 := hst.n1
        have hd : l[i].den.natAbs < 2 ^ 10 := by omega
        have hn' : l[i].num.natAbs < 2 ^ 10 := by omega
        have hx : (partOf l[i] (l.drop (i + 1)) w).natAbs < 2 ^ 30 := by omega
        have m1 := mulOk_of p1 hd (by omega)
        have m2 := mulOk_of hx hn' (by omega)
        have m3 := mulOk_of (b_mul hx hn') q1 (by omega)
        have m4 := mulOk_of q1 hd (by omega)
        have x0 := ixSc (m := .sh) hi
        have xs0 := ixS0 (s := l[i]) (m := .sh)
        have xs1 := ixS1 (s := l[i]) (m := .sh)
        have hpart : partOf l[i] (l.drop (i + 1)) w = max 0 (min w (endAt (l.drop (i + 1))) - l[i].at_) := rfl
        refine ⟨_, .nx, [some (.sh, dSc l), some (.sh, .int w), some (.sh, .int (r.1 * l[i].den + partOf l[i] (l.drop (i + 1)) w * l[i].num * r.2)), some (.sh, .int (r.2 * l[i].den)), some (.sh, .int i), some (.sh, .int (endAt (l.drop (i + 1)))), some (.sh, .int (partOf l[i] (l.drop (i + 1)) w)), some (.sh, dR (l[i].num, l[i].den))], rfl, ?_, i + 1, k, (_, _), _, _, _, _, rfl, by omega, rfl, hf, hs'⟩
        unfold feeBody dSc
        by_cases h1 : i + 1 < l.length
        · have h1' : (i : Int) + 1 < (l.length : Int) := by omega
          have x1 := ixSc1 (m := .sh) h1
          have xs2 := ixS0 (s := l[i + 1]) (m := .sh)
          rw [end_in h1] at hpart ⊢
          simp [h1', x1, xs2, x0, xs0, xs1, ixR0, ixR1, ← hpart, m1, m2, m3, m4]
        · have h1' : ¬ (i : Int) + 1 < (l.length : Int) := by omega
          rw [end_out h1] at hpart ⊢
          simp [h1', x0, xs0, xs1, ixR0, ixR1, ← hpart, m1, m2, m3, m4]) (by
      rintro S ⟨i, k, r, j4, j5, j6, j7, hr, hik, rfl, hf, hs⟩
      cases k with
      | succ k => cases hr
      | zero =>
        have : i = l.length := by omega
        subst this
        rw [List.drop_length] at hf
        have hf : r = feeG l w (0, 1) := hf
        subst hf
        exact ⟨rfl, j4, j5, j6, j7, rfl⟩) (ds := natsD l.length) (S := [some (.sh, dSc l), some (.sh, .int w), some (.sh, .int 0), some (.sh, .int 1), none, none, none, none]) ⟨0, l.length, (0, 1), none, none, none, none, natsD_from _, by omega, rfl, rfl, by unfold SumOk; decide⟩
  obtain ⟨fl, S', e1, rfl, j4, j5, j6, j7, rfl⟩ := hloop
  have hok := feeG_ok (w := w) (k := 0) (r := (0, 1)) hl (by unfold SumOk; decide)
  obtain ⟨_, _, q0, q1⟩ := hok
  have e2 := lowest_ok (p := (feeG l w (0, 1)).1) (q := (feeG l w (0, 1)).2) (by omega) (b_mono q1 (by omega))
  have hr := rng_ok4 (m := .sh) (n := l.length) (by omega)
  unfold m__law_fee b__law_fee
  unfold feeBody dSc at e1
  unfold dSc
  simp [hr, e1, e2]
end Yk65
set_option maxRecDepth 100000
set_option maxHeartbeats 4000000
namespace Yk65
open PySem O
def feeBody2 : FS := (sSeq (sAsg (gNm 4) (fIf (tB1 (fOp2 semLt (oV (fOp2 semAdd (oP 3) (oV (fCon (.int 1))))) (oV (fN semLen (aCons (oP 0) (aNil)))))) (fOp2 semIx (oV (fOp2 semIx (oP 0) (oV (fOp2 semAdd (oP 3) (oV (fCon (.int 1))))))) (oV (fCon (.int 0)))) (fCon k_MAX_WORTH))) (
  sSeq (sAsg (gNm 5) (fOp2 semSub (oV (fN semMin2 (aCons (oP 1) (aCons (oP 4) (aNil))))) (oP 6))) (
  sIf (tB1 (fOp2 semGtI (oP 5) (oV (fCon (.int 0))))) (sAsg (gNm 2) (fCall 2 [] m_plus (aCons (oV (fVar 2)) (aCons (oV (fCall 2 [] m_times (aCons (oV (fVar 7)) (aCons (oV (fN semTup (aCons (oV (fVar 5)) (aCons (oV (fCon (.int 1))) (aNil))))) (aNil))))) (aNil))))) (sNil))))
theorem low_bd1 (p q : Int) : (low p q).1.natAbs ≤ p.natAbs := by
  unfold low
  have h := Int.natAbs_ediv_le_natAbs (lowP p q) (gD p q)
  have : (lowP p q).natAbs = p.natAbs := by unfold lowP; split <;> omega
  show (lowP p q / gD p q).natAbs ≤ _
  omega
theorem low_bd2 (p q : Int) : (low p q).2.natAbs ≤ q.natAbs := by
  unfold low
  have h := Int.natAbs_ediv_le_natAbs (lowQ p q) (gD p q)
  have : (lowQ p q).natAbs = q.natAbs := by unfold lowQ; split <;> omega
  show (lowQ p q / gD p q).natAbs ≤ _
  omega
theorem low_add {p q n d x : Int} (hq : q ≠ 0) (hd : d ≠ 0) : low ((low p q).1 * (low (n * x) d).2 + (low (n * x) d).1 * (low p q).2) ((low p q).2 * (low (n * x) d).2) = low (p * d + x * n * q) (q * d) := by
  have h1 := low_is (p := p) hq
  have h2 := low_is (p := n * x) (q := d) hd
  have e1 := h1.eq
  have e2 := h2.eq
  have p1 := h1.pos
  have p2 := h2.pos
  generalize low p q = a at *
  generalize low (n * x) d = b at *
  refine low_congr (by have := Int.mul_pos p1 p2; omega) (Int.mul_ne_zero hq hd) ?_
  have e2' : b.1 * d = n * x * b.2 := e2
  calc (a.1 * b.2 + b.1 * a.2) * (q * d) = (a.1 * q) * (b.2 * d) + (b.1 * d) * (a.2 * q) := by rw [Int.add_mul]; congr 1 <;> ac_rfl
    _ = (p * a.2) * (b.2 * d) + (n * x * b.2) * (a.2 * q) := by rw [e1, e2']
    _ = (p * d + x * n * q) * (a.2 * b.2) := by rw [Int.add_mul]; congr 1 <;> ac_rfl
theorem low_skip {p q d : Int} (hq : q ≠ 0) (hd : d ≠ 0) {x n : Int} (hx : x = 0) : low p q = low (p * d + x * n * q) (q * d) := by
  subst hx
  refine low_congr hq (Int.mul_ne_zero hq hd) ?_
  rw [Int.zero_mul, Int.zero_mul, Int.add_zero]
  ac_rfl
theorem fee_ok {l : List Stp} (hl : ∀ s ∈ l, StpOk s) (hn : l.length ≤ 12) (w : Int) : m_fee [(.sh, dSc l), (.sh, .int w)] = .ok ((.sh, dR (low (feeG l w (0, 1)).1 (feeG l w (0, 1)).2)), []) := by
  have hloop := for_inv (g := gTp 2 (gsCons (gNm 3) (gsCons (gTp 2 (gsCons (gNm 6) (gsCons (gNm 7) (gsNil)))) (gsNil)))) (body := feeBody2) (Inv := fun rest S => ∃ i, ∃ r : Int × Int, ∃ j4 j5 j6 j7 j8, rest = enFrom i ((l.drop i).map dS) ∧ i ≤ l.length ∧ S = [some (.sh, dSc l), some (.sh, .int w), some (.sh, dR (low r.1 r.2)), j4, j5, j6, j7, j8] ∧ feeG (l.drop i) w r = feeG l w (0, 1) ∧ SumOk i r)
    (Post := fun fl S => fl = .nx ∧ ∃ j4 j5 j6 j7 j8, S = [some (.sh, dSc l), some (.sh, .int w), some (.sh, dR (low (feeG l w (0, 1)).1 (feeG l w (0, 1)).2)), j4, j5, j6, j7, j8]) (by
      rintro d rest S ⟨i, r, j4, j5, j6, j7, j8, hr, hik, rfl, hf, hs⟩
      by_cases hi : i < l.length
      · have hst := hl l[i] (List.getElem_mem hi)
        rw [drop_cons hi] at hf hr
        obtain ⟨rfl, rfl⟩ := List.cons.inj hr
        have hb := part_bd (w := w) hst (rest := l.drop (i + 1)) fun t ht => hl t (List.mem_of_mem_drop ht)
        have hs' := hs.step hst hb.1 hb.2
        obtain ⟨p0, p1, q0, q1⟩ := hs
        have d0 := hst.d0
        have d1 := hst.d1
        have n0 := hst.n0
        have n1 := hst.n1
        have hpart : partOf l[i] (l.drop (i + 1)) w = max 0 (min w (endAt (l.drop (i + 1))) - l[i].at_) := rfl
        have hx : (partOf l[i] (l.drop (i + 1)) w).natAbs < 2 ^ 30 := by omega
        have lp := low_is (p := r.1) (q := r.2) (by omega)
        have b1 : (low r.1 r.2).1.natAbs < 2 ^ 1000 := Nat.lt_of_le_of_lt (low_bd1 _ _) (b_mono p1 (by omega))
        have b2 : (low r.1 r.2).2.natAbs < 2 ^ 1000 := Nat.lt_of_le_of_lt (low_bd2 _ _) (b_mono q1 (by omega))
        have bn : l[i].num.natAbs < 2 ^ 10 := by omega
        have bd : l[i].den.natAbs < 2 ^ 10 := by omega
        have d10 : l[i].den ≠ 0 := by omega
        by_cases hpos : 0 < min w (endAt (l.drop (i + 1))) - l[i].at_
        · have hpe : partOf l[i] (l.drop (i + 1)) w = min w (endAt (l.drop (i + 1))) - l[i].at_ := by rw [hpart]; omega
          have t1 := times_ok (r := (l[i].num, l[i].den)) (s := (partOf l[i] (l.drop (i + 1)) w, 1)) (b_mono bn (by omega)) (b_mono bd (by omega)) (b_mono hx (by omega)) (b_mono (i := 1) (a := 1) (by decide) (by omega)) (by show l[i].den ≠ 0; omega) (by show (1 : Int) ≠ 0; decide)
          simp only [Int.mul_one] at t1
          have c1 : (low (l[i].num * partOf l[i] (l.drop (i + 1)) w) l[i].den).1.natAbs < 2 ^ 1000 := Nat.lt_of_le_of_lt (low_bd1 _ _) (b_mono (b_mul bn hx) (by omega))
          have c2 : (low (l[i].num * partOf l[i] (l.drop (i + 1)) w) l[i].den).2.natAbs < 2 ^ 1000 := Nat.lt_of_le_of_lt (low_bd2 _ _) (b_mono bd (by omega))
          have lq := low_is (p := l[i].num * partOf l[i] (l.drop (i + 1)) w) d10
          have t2 := plus_ok (r := low r.1 r.2) (s := low (l[i].num * partOf l[i] (l.drop (i + 1)) w) l[i].den) b1 b2 c1 c2 (by have := lp.pos; omega) (by have := lq.pos; omega)
          rw [low_add (by omega) (by omega)] at t2
          have t1' : m_times [(.sh, dR (l[i].num, l[i].den)), (.sh, .tuple [.int (min w (endAt (l.drop (i + 1))) - l[i].at_), .int 1])] = .ok ((.sh, dR (low (l[i].num * partOf l[i] (l.drop (i + 1)) w) l[i].den)), []) := by rw [← hpe]; exact t1
          refine ⟨[some (.sh, dSc l), some (.sh, .int w), some (.sh, dR (low r.1 r.2)), some (.sh, .int i), j5, j6, some (.sh, .int l[i].at_), some (.sh, dR (l[i].num, l[i].den))], .nx, [some (.sh, dSc l), some (.sh, .int w), some (.sh, dR (low (r.1 * l[i].den + partOf l[i] (l.drop (i + 1)) w * l[i].num * r.2) (r.2 * l[i].den))), some (.sh, .int i), some (.sh, .int (endAt (l.drop (i + 1)))), some (.sh, .int (min w (endAt (l.drop (i + 1))) - l[i].at_)), some (.sh, .int l[i].at_), some (.sh, dR (l[i].num, l[i].den))], by simp [dS], ?_, i + 1, (_, _), _, _, _, _, _, rfl, by omega, rfl, hf, hs'⟩
          unfold feeBody2 dSc
          by_cases h1 : i + 1 < l.length
          · have h1' : (i : Int) + 1 < (l.length : Int) := by omega
            have x1 := ixSc1 (m := .sh) h1
            have xs2 := ixS0 (s := l[i + 1]) (m := .sh)
            rw [end_in h1] at hpos t1' ⊢
            simp [h1', x1, xs2, hpos, t1', t2, -Int.sub_pos, -Int.lt_min]
          · have h1' : ¬ (i : Int) + 1 < (l.length : Int) := by omega
            rw [end_out h1] at hpos t1' ⊢
            simp [h1', k_MAX_WORTH, hpos, t1', t2, -Int.sub_pos, -Int.lt_min]
        · have hpe : partOf l[i] (l.drop (i + 1)) w = 0 := by rw [hpart]; omega
          have hsk := low_skip (p := r.1) (q := r.2) (d := l[i].den) (n := l[i].num) (by omega) (by omega) hpe
          refine ⟨[some (.sh, dSc l), some (.sh, .int w), some (.sh, dR (low r.1 r.2)), some (.sh, .int i), j5, j6, some (.sh, .int l[i].at_), some (.sh, dR (l[i].num, l[i].den))], .nx, [some (.sh, dSc l), some (.sh, .int w), some (.sh, dR (low (r.1 * l[i].den + partOf l[i] (l.drop (i + 1)) w * l[i].num * r.2) (r.2 * l[i].den))), some (.sh, .int i), some (.sh, .int (endAt (l.drop (i + 1)))), some (.sh, .int (min w (endAt (l.drop (i + 1))) - l[i].at_)), some (.sh, .int l[i].at_), some (.sh, dR (l[i].num, l[i].den))], by simp [dS], ?_, i + 1, (_, _), _, _, _, _, _, rfl, by omega, rfl, hf, hs'⟩
          rw [← hsk]
          unfold feeBody2 dSc
          by_cases h1 : i + 1 < l.length
          · have h1' : (i : Int) + 1 < (l.length : Int) := by omega
            have x1 := ixSc1 (m := .sh) h1
            have xs2 := ixS0 (s := l[i + 1]) (m := .sh)
            rw [end_in h1] at hpos ⊢
            simp [h1', x1, xs2, hpos, -Int.sub_pos, -Int.lt_min]
          · have h1' : ¬ (i : Int) + 1 < (l.length : Int) := by omega
            rw [end_out h1] at hpos ⊢
            simp [h1', k_MAX_WORTH, hpos, -Int.sub_pos, -Int.lt_min]
      · rw [List.drop_eq_nil_of_le (by omega)] at hr
        cases hr) (by
      rintro S ⟨i, r, j4, j5, j6, j7, j8, hr, hik, rfl, hf, hs⟩
      by_cases hi : i < l.length
      · rw [drop_cons hi] at hr
        cases hr
      · have : i = l.length := by omega
        subst this
        rw [List.drop_length] at hf
        have hf : r = feeG l w (0, 1) := hf
        subst hf
        exact ⟨rfl, j4, j5, j6, j7, j8, rfl⟩) (ds := enFrom 0 (l.map dS)) (S := [some (.sh, dSc l), some (.sh, .int w), some (.sh, dR (low 0 1)), none, none, none, none, none]) ⟨0, (0, 1), none, none, none, none, none, rfl, by omega, rfl, rfl, by unfold SumOk; decide⟩
  obtain ⟨fl, S', e1, rfl, j4, j5, j6, j7, j8, rfl⟩ := hloop
  have hz0 : low 0 1 = (0, 1) := by decide +kernel
  have hz : k_NOTHING = dR (low 0 1) := by rw [hz0]; rfl
  have he := enum_sh (ds := l.map dS)
  unfold m_fee b_fee
  unfold feeBody2 dSc at e1
  unfold dSc
  simp [hz, he, e1]
end Yk65
set_option maxRecDepth 100000
set_option maxHeartbeats 4000000
namespace Yk65
open PySem O
def cen (l : List Stp) (w : Int) : Int := rnd (low (feeG l w (0, 1)).1 (feeG l w (0, 1)).2)
theorem rnd_low {p q : Int} (hq : 0 < q) : rnd (low p q) = (2 * p + q) / (2 * q) := by
  have h := low_is (p := p) (q := q) (by omega)
  have e := h.eq
  have hp := h.pos
  generalize low p q = a at *
  unfold rnd
  have e1 : (2 * a.1 + a.2) / (2 * a.2) = (q * (2 * a.1 + a.2)) / (q * (2 * a.2)) := (Int.mul_ediv_mul_of_pos _ _ hq).symm
  have e2 : q * (2 * a.1 + a.2) = a.2 * (2 * p + q) := by
    rw [Int.mul_add, Int.mul_add]
    have : q * (2 * a.1) = a.2 * (2 * p) := by
      calc q * (2 * a.1) = 2 * (a.1 * q) := by ac_rfl
        _ = 2 * (p * a.2) := by rw [e]
        _ = a.2 * (2 * p) := by ac_rfl
    rw [this, Int.mul_comm q a.2]
  have e3 : q * (2 * a.2) = a.2 * (2 * q) := by ac_rfl
  rw [e1, e2, e3, Int.mul_ediv_mul_of_pos _ _ hp]
theorem cen_mono {l : List Stp} (hl : ∀ s ∈ l, StpOk s) {w w' : Int} (h : w ≤ w') : cen l w ≤ cen l w' := by
  have h1 := feeG_ok (w := w) (k := 0) (r := (0, 1)) hl (by unfold SumOk; decide)
  have h2 := feeG_ok (w := w') (k := 0) (r := (0, 1)) hl (by unfold SumOk; decide)
  have hd := feeG_den (l := l) (w := w) (w' := w') (r := (0, 1)) (r' := (0, 1)) rfl
  have hm := feeG_mono hl h (r := (0, 1)) (r' := (0, 1)) rfl (by decide) (Int.le_refl _)
  unfold cen
  rw [rnd_low h1.2.2.1, rnd_low h2.2.2.1, ← hd]
  exact Int.ediv_le_ediv (by have := h1.2.2.1; omega) (by omega)
theorem cents_ok {l : List Stp} (hl : ∀ s ∈ l, StpOk s) (hn : l.length ≤ 12) (w : Int) : m_fee_cents [(.sh, dSc l), (.sh, .int w)] = .ok ((.sh, .int (cen l w)), []) := by
  have h1 := feeG_ok (w := w) (k := 0) (r := (0, 1)) hl (by unfold SumOk; decide)
  obtain ⟨p0, p1, q0, q1⟩ := h1
  have e1 := fee_ok hl hn w
  have hp := (low_is (p := (feeG l w (0, 1)).1) (q := (feeG l w (0, 1)).2) (by omega)).pos
  have e2 := rounded_ok (r := low (feeG l w (0, 1)).1 (feeG l w (0, 1)).2) (Nat.lt_of_le_of_lt (low_bd1 _ _) (b_mono p1 (by omega))) (Nat.lt_of_le_of_lt (low_bd2 _ _) (b_mono q1 (by omega))) hp
  unfold m_fee_cents b_fee_cents cen
  simp [e1, e2]
theorem law_cents_ok {l : List Stp} (hl : ∀ s ∈ l, StpOk s) (hn : l.length ≤ 12) (w : Int) : m__law_round [(.sh, dR (low (feeG l w (0, 1)).1 (feeG l w (0, 1)).2))] = .ok ((.sh, .int (cen l w)), []) := by
  have h1 := feeG_ok (w := w) (k := 0) (r := (0, 1)) hl (by unfold SumOk; decide)
  obtain ⟨p0, p1, q0, q1⟩ := h1
  have hp := (low_is (p := (feeG l w (0, 1)).1) (q := (feeG l w (0, 1)).2) (by omega)).pos
  exact round_ok (r := low (feeG l w (0, 1)).1 (feeG l w (0, 1)).2) (Nat.lt_of_le_of_lt (low_bd1 _ _) (b_mono p1 (by omega))) (Nat.lt_of_le_of_lt (low_bd2 _ _) (b_mono q1 (by omega))) hp
def srchT : FT := tB1 (fOp2 semLt (oP 2) (oP 3))
def srchB : FS := (sSeq (sAsg (gNm 4) (fOp2 semFdiv (oV (fOp2 semAdd (oP 2) (oP 3))) (oV (fCon (.int 2))))) (
  sIf (tB1 (fOp2 semLt (oV (fCall 2 [] m_fee_cents (aCons (oV (fVar 0)) (aCons (oV (fVar 4)) (aNil))))) (oP 1))) (sAsg (gNm 2) (fOp2 semAdd (oP 4) (oV (fCon (.int 1))))) (sAsg (gNm 3) (fVar 4))))
theorem worth_for_ok {l : List Stp} (hl : ∀ s ∈ l, StpOk s) (hn : l.length ≤ 12) (c : Int) (hc : c ≤ cen l MW) : ∃ t, m_worth_for [(.sh, dSc l), (.sh, .int c)] = .ok ((.sh, .int t), []) ∧ 0 ≤ t ∧ t ≤ MW ∧ c ≤ cen l t ∧ (t = 0 ∨ cen l (t - 1) < c) := by
  have hloop := while_inv (t := srchT) (body := srchB) (Inv := fun n S => ∃ lo hi j, S = [some (.sh, dSc l), some (.sh, .int c), some (.sh, .int lo), some (.sh, .int hi), j] ∧ 0 ≤ lo ∧ lo ≤ hi ∧ hi ≤ MW ∧ c ≤ cen l hi ∧ (lo = 0 ∨ cen l (lo - 1) < c) ∧ (hi - lo).toNat < 2 ^ n)
    (Post := fun fl S => fl = .nx ∧ ∃ t j j2, S = [some (.sh, dSc l), some (.sh, .int c), some (.sh, .int t), j2, j] ∧ 0 ≤ t ∧ t ≤ MW ∧ c ≤ cen l t ∧ (t = 0 ∨ cen l (t - 1) < c)) (by
      rintro n S ⟨lo, hi, j, rfl, h1, h2, h3, h4, h5, h6⟩
      refine ⟨decide (lo < hi), [some (.sh, dSc l), some (.sh, .int c), some (.sh, .int lo), some (.sh, .int hi), j], by unfold srchT; simp, ?_, ?_⟩
      · intro hd
        have : ¬ lo < hi := by simpa using hd
        have e : hi = lo := by omega
        subst e
        exact ⟨rfl, hi, _, _, rfl, h1, h3, h4, h5⟩
      · intro hd
        have hlt : lo < hi := by simpa using hd
        have hdv : DvOk 2 := divOk_of (by decide) (by decide)
        have ef : (lo + hi).fdiv 2 = (lo + hi) / 2 := fdiv_pos (by decide)
        have ec := cents_ok hl hn ((lo + hi) / 2)
        obtain ⟨m, rfl⟩ : ∃ m, n = m + 1 := ⟨n - 1, by
          cases n with
          | zero => simp at h6; omega
          | succ n => rfl⟩
        rw [Nat.pow_succ] at h6
        by_cases hm : cen l ((lo + hi) / 2) < c
        · refine ⟨.nx, [some (.sh, dSc l), some (.sh, .int c), some (.sh, .int ((lo + hi) / 2 + 1)), some (.sh, .int hi), some (.sh, .int ((lo + hi) / 2))], by unfold srchB; simp [hdv, ef, ec, hm], m, Nat.lt_succ_self m, _, _, _, rfl, by omega, by omega, h3, h4, .inr (by rw [show (lo + hi) / 2 + 1 - 1 = (lo + hi) / 2 by omega]; exact hm), by omega⟩
        · refine ⟨.nx, [some (.sh, dSc l), some (.sh, .int c), some (.sh, .int lo), some (.sh, .int ((lo + hi) / 2)), some (.sh, .int ((lo + hi) / 2))], by unfold srchB; simp [hdv, ef, ec, hm], m, Nat.lt_succ_self m, _, _, _, rfl, by omega, by omega, by omega, by omega, h5, by omega⟩) (F := 1000000) (n := 30) (S := [some (.sh, dSc l), some (.sh, .int c), some (.sh, .int 0), some (.sh, .int MW), none]) (by decide) ⟨0, MW, none, rfl, by decide, by decide, Int.le_refl _, hc, .inl rfl, by decide⟩
  obtain ⟨fl, S', e1, rfl, t, j, j2, rfl, h1, h2, h3, h4⟩ := hloop
  refine ⟨t, ?_, h1, h2, h3, h4⟩
  have ec := cents_ok hl hn MW
  have hnl : ¬ cen l MW < c := by omega
  unfold m_worth_for b_worth_for
  unfold srchT srchB at e1
  generalize hW : (whileD _ _ 1000000 : FS) = W at e1 ⊢
  simp [kMW, ec, hnl, e1]
theorem refused_ok {l : List Stp} (hl : ∀ s ∈ l, StpOk s) (hn : l.length ≤ 12) (c : Int) (hc : cen l MW < c) : m__law_refused [(.sh, dSc l), (.sh, .int c)] = .ok ((.sh, .bool true), []) := by
  have ec := cents_ok hl hn MW
  unfold m__law_refused raises asg1 cnd1
  simp [kMW, ec, hc]
theorem worth_fine_ok {l : List Stp} (hl : ∀ s ∈ l, StpOk s) (hn : l.length ≤ 12) (c : Int) : m__law_worth_fine [(.sh, dSc l), (.sh, .int c)] = .ok ((.sh, .bool true), []) := by
  have hp : semPow (.sh, .int 10) (.sh, .int 9) = .ok (.sh, .int MW) := rfl
  have f1 := law_fee_ok hl hn MW
  have c1 := law_cents_ok hl hn MW
  unfold m__law_worth_fine b__law_worth_fine
  by_cases h : cen l MW < c
  · have hr := refused_ok hl hn c h
    simp [hp, f1, c1, h, hr, -pow_ok]
  · obtain ⟨t, ht, h1, h2, h3, h4⟩ := worth_for_ok hl hn c (by omega)
    have f2 := law_fee_ok hl hn t
    have c2 := law_cents_ok hl hn t
    have f3 := law_fee_ok hl hn (t - 1)
    have c3 := law_cents_ok hl hn (t - 1)
    have h3' : ¬ cen l t < c := by omega
    by_cases h0 : t = 0
    · subst h0
      simp [hp, f1, c1, h, ht, h2, f2, c2, h3', -pow_ok]
    · have hlt : cen l (t - 1) < c := by omega
      simp [hp, f1, c1, h, ht, h1, h2, f2, c2, h3', h0, f3, c3, hlt, -pow_ok]
end Yk65
set_option maxRecDepth 100000
set_option maxHeartbeats 4000000
namespace Yk65
open PySem O
def scB1 : FS := (sDrop (fMt 1 semAppend (aCons (oV (fSh (fOp2 semAdd (oV (fCon (.int 1))) (oV (fCall 2 [0] m__law_draw (aCons (oP 0) (aCons (oV (fOp2 semIx (oV (fN semLst (aCons (oV (fCon (.int 60))) (aCons (oV (fSh (fOp2 semPow (oV (fCon (.int 10))) (oV (fCon (.int 5)))))) (aCons (oV (fSh (fOp2 semPow (oV (fCon (.int 10))) (oV (fCon (.int 9)))))) (aNil)))))) (oV (fCall 2 [0] m__law_draw (aCons (oP 0) (aCons (oV (fCon (.int 3))) (aNil))))))) (aNil)))))))) (aNil))))
def scB2 : FS := (sSeq (sAsg (gNm 5) (fOp2 semAdd (oV (fCon (.int 1))) (oV (fCall 2 [0] m__law_draw (aCons (oP 0) (aCons (oV (fOp2 semIx (oV (fN semLst (aCons (oV (fCon (.int 4))) (aCons (oV (fCon (.int 100))) (aCons (oV (fCon (.int 1000))) (aNil)))))) (oV (fCall 2 [0] m__law_draw (aCons (oP 0) (aCons (oV (fCon (.int 3))) (aNil))))))) (aNil))))))) (
  sDrop (fMt 3 semAppend (aCons (oV (fN semTup (aCons (oV (fVar 4)) (aCons (oV (fSh (fCall 2 [] m__law_lowest (aCons (oV (fCall 2 [0] m__law_draw (aCons (oP 0) (aCons (oV (fOp2 semAdd (oP 5) (oV (fCon (.int 1))))) (aNil))))) (aCons (oV (fVar 5)) (aNil)))))) (aNil))))) (aNil)))))
theorem low_stp {a g q : Int} (h0 : 0 ≤ a) (h1 : a ≤ 1000000000) (g0 : 0 ≤ g) (g1 : g ≤ q) (q0 : 0 < q) (q1 : q ≤ 1000) : StpOk ⟨a, (low g q).1, (low g q).2⟩ := by
  have h := low_is (p := g) (q := q) (by omega)
  have hb := low_bd2 g q
  obtain ⟨hp, hc, he⟩ := h
  generalize low g q = r at *
  refine ⟨h0, h1, ?_, ?_, hp, by show r.2 ≤ 1000; omega, hc⟩
  · show 0 ≤ r.1
    rcases Int.lt_or_le r.1 0 with hn | hn
    · have e1 : r.1 * q < 0 := Int.mul_neg_of_neg_of_pos hn q0
      have e2 : 0 ≤ g * r.2 := Int.mul_nonneg g0 (by omega)
      omega
    · exact hn
  · show r.1 ≤ r.2
    have e1 : g * r.2 ≤ q * r.2 := Int.mul_le_mul_of_nonneg_right g1 (by omega)
    have e2 : r.1 * q ≤ r.2 * q := by rw [he, Int.mul_comm r.2 q]; exact e1
    exact Int.le_of_mul_le_mul_right e2 q0
theorem ints_map (ns : List Int) : intsOf (ns.map .int) = .ok ns := by
  induction ns with
  | nil => rfl
  | cons n ns ih =>
    show (intsOf (ns.map .int) >>= _) = _
    rw [ih]; rfl
theorem isStep_of {s : Stp} (h : StpOk s) : isStep (dS s) = true := by
  obtain ⟨a0, a1, n0, n1, d0, d1, c⟩ := h
  have a1' : s.at_ ≤ MW := a1
  simp [dS, dR, isStep, a0, a1', n0, n1, d0, c]
theorem scale_is {l : List Stp} (hl : ∀ s ∈ l, StpOk s) (h1 : 1 ≤ l.length) (h2 : l.length ≤ 12) (h3 : ∀ s rest, l = s :: rest → s.at_ = 0) (h4 : (l.map (·.at_)).Pairwise (· < ·)) : isScale (dSc l) = true := by
  have hs : ∀ k, (h : k < l.length) → startAt (l.map dS) k = l[k].at_ := fun k h => by
    rw [startAt_eq (by simpa using h)]
    simp [dS, startD]
  unfold isScale dSc
  simp only [List.length_map]
  have e1 : (l.map dS).all isStep = true := List.all_eq_true.mpr fun d hd => by
    obtain ⟨s, hs, rfl⟩ := List.mem_map.mp hd
    exact isStep_of (hl s hs)
  have e2 : startAt (l.map dS) 0 = 0 := by
    rw [hs 0 (by omega)]
    cases l with
    | nil => simp at h1
    | cons s rest => exact h3 s rest rfl
  have e3 : ascAll (l.map dS) = true := by
    unfold ascAll
    rw [List.length_map]
    refine List.all_eq_true.mpr fun d hd => ?_
    obtain ⟨i, hi, rfl⟩ := mem_natsD hd
    unfold ascAt
    simp only [Int.toNat_natCast]
    rw [decide_eq_true_eq, hs i (by omega), hs (i + 1) (by omega)]
    have := List.pairwise_iff_getElem.mp h4 i (i + 1) (by simp; omega) (by simp; omega) (by omega)
    simpa using this
  simp [e1, e2, e3, h1, h2]
theorem scale_ok (b : Bx) : ∃ l b', m__law_scale [(.bx, dB b)] = .ok ((.sh, dSc l), [(.bx, dB b')]) ∧ (∀ s ∈ l, StpOk s) ∧ l.length ≤ 12 ∧ isScale (dSc l) = true := by
  have a0 := b.dig_nn (k := 5) (by decide)
  have a1 := b.dig_lt (k := 5) (by decide)
  have c0 := (b.nxt 5).dig_nn (k := 4) (by decide)
  have c1 := (b.nxt 5).dig_lt (k := 4) (by decide)
  have mo : MuOk (b.dig 5) ((b.nxt 5).dig 4) := mulOk_of (a := 4) (b := 4) (by omega) (by omega) (by omega)
  obtain ⟨n, hn, hn12⟩ : ∃ n : Nat, b.dig 5 * (b.nxt 5).dig 4 = n ∧ n ≤ 12 := by
    have h1 : 0 ≤ b.dig 5 * (b.nxt 5).dig 4 := Int.mul_nonneg a0 c0
    have h2 : b.dig 5 * (b.nxt 5).dig 4 ≤ 4 * 3 := Int.mul_le_mul (by omega) (by omega) c0 (by omega)
    exact ⟨(b.dig 5 * (b.nxt 5).dig 4).toNat, by omega, by omega⟩
  have hr := rng_ok4 (m := .sh) (n := n) (by omega)
  have hloop := for_inv (g := gNm 2) (body := scB1) (Inv := fun rest S => ∃ (b : Bx) (ns : List Int) (j : Option MV), S = [some (.bx, dB b), some (.ow .sh, .list (ns.map .int)), j, none, none, none] ∧ ns.length + rest.length ≤ 13 ∧ 0 ∈ ns ∧ ∀ x ∈ ns, (0 : Int) ≤ x ∧ x ≤ 1000000000)
    (Post := fun fl S => fl = .nx ∧ ∃ (b : Bx) (ns : List Int) (j : Option MV), S = [some (.bx, dB b), some (.ow .sh, .list (ns.map .int)), j, none, none, none] ∧ ns.length ≤ 13 ∧ 0 ∈ ns ∧ ∀ x ∈ ns, (0 : Int) ≤ x ∧ x ≤ 1000000000) (by
      rintro d rest S ⟨b, ns, j, rfl, hlen, h0, hx⟩
      obtain ⟨d', hd', e⟩ := pick_ow (l := [.int 60, .int 100000, .int 1000000000]) (b.dig_nn (k := 3) (by decide)) (by simpa using b.dig_lt (k := 3) (by decide))
      obtain ⟨t, rfl, t0, t1⟩ : ∃ t : Int, d' = .int t ∧ 0 < t ∧ t ≤ 1000000000 := by
        simp only [List.mem_cons, List.not_mem_nil, or_false] at hd'
        rcases hd' with rfl | rfl | rfl <;> exact ⟨_, rfl, by omega, by omega⟩
      have hdr := draw_ok (b.nxt 3) t0 (by omega)
      have g0 := (b.nxt 3).dig_nn t0
      have g1 := (b.nxt 3).dig_lt t0
      have happ := append_ok (ds := ns.map .int) (d := .int (1 + (b.nxt 3).dig t)) (by simp at hlen ⊢; omega)
      refine ⟨_, .nx, [some (.bx, dB ((b.nxt 3).nxt t)), some (.ow .sh, .list ((ns ++ [1 + (b.nxt 3).dig t]).map .int)), some (.sh, d), none, none, none], rfl, ?_, (b.nxt 3).nxt t, ns ++ [1 + (b.nxt 3).dig t], some (.sh, d), rfl, ?_, ?_, ?_⟩
      · unfold scB1
        simp [e, hdr, happ]
      · simp at hlen ⊢; omega
      · exact List.mem_append_left _ h0
      · intro x hx'
        rcases List.mem_append.mp hx' with hx' | hx'
        · exact hx x hx'
        · rw [List.mem_singleton.mp hx']; omega) (by
      rintro S ⟨b, ns, j, rfl, hlen, h0, hx⟩
      exact ⟨rfl, b, ns, j, rfl, by simpa using hlen, h0, hx⟩) (ds := natsD n) (S := [some (.bx, dB ((b.nxt 5).nxt 4)), some (.ow .sh, .list [.int 0]), none, none, none, none]) ⟨(b.nxt 5).nxt 4, [0], none, rfl, by simp; omega, by simp, by simp⟩
  obtain ⟨fl, S', e1, rfl, b1, ns, j, rfl, hlen, h0, hx⟩ := hloop
  have hmem0 : ∀ x ∈ (sortD ns).take 12, 0 ≤ x ∧ x ≤ 1000000000 := fun x hx' => hx x (sortD_mem.mp (List.mem_of_mem_take hx'))
  have hloop2 := for_inv (g := gNm 4) (body := scB2) (Inv := fun rest S => ∃ (b : Bx) (l : List Stp) (rs : List Int) (j4 j5 : Option MV), S = [some (.bx, dB b), some (.sh, .list (ns.map .int)), j, some (.ow .sh, .list (l.map dS)), j4, j5] ∧ rest = rs.map .int ∧ l.map (·.at_) ++ rs = (sortD ns).take 12 ∧ ∀ s ∈ l, StpOk s)
    (Post := fun fl S => fl = .nx ∧ ∃ (b : Bx) (l : List Stp) (j4 j5 : Option MV), S = [some (.bx, dB b), some (.sh, .list (ns.map .int)), j, some (.ow .sh, .list (l.map dS)), j4, j5] ∧ l.map (·.at_) = (sortD ns).take 12 ∧ ∀ s ∈ l, StpOk s) (by
      rintro d rest S ⟨b, l, rs, j4, j5, rfl, hrest, hat, hl⟩
      cases rs with
      | nil => cases hrest
      | cons a rs =>
        obtain ⟨rfl, rfl⟩ := List.cons.inj hrest
        obtain ⟨d', hd', e⟩ := pick_ow (l := [.int 4, .int 100, .int 1000]) (b.dig_nn (k := 3) (by decide)) (by simpa using b.dig_lt (k := 3) (by decide))
        obtain ⟨t, rfl, t0, t1⟩ : ∃ t : Int, d' = .int t ∧ 0 < t ∧ t ≤ 1000 := by
          simp only [List.mem_cons, List.not_mem_nil, or_false] at hd'
          rcases hd' with rfl | rfl | rfl <;> exact ⟨_, rfl, by omega, by omega⟩
        have hdr := draw_ok (b.nxt 3) t0 (by omega)
        have g0 := (b.nxt 3).dig_nn t0
        have g1 := (b.nxt 3).dig_lt t0
        generalize (b.nxt 3).dig t = g at *
        generalize (b.nxt 3).nxt t = b2 at *
        have hdr2 := draw_ok b2 (k := 1 + g + 1) (by omega) (by omega)
        have v0 := b2.dig_nn (k := 1 + g + 1) (by omega)
        have v1 := b2.dig_lt (k := 1 + g + 1) (by omega)
        generalize b2.dig (1 + g + 1) = v at *
        generalize b2.nxt (1 + g + 1) = b3 at *
        have hlow := lowest_ok (p := v) (q := 1 + g) (by omega) (by
          have : (1 + g).natAbs < 2 ^ 12 := by omega
          exact b_mono this (by omega))
        have ha := hmem0 a (by rw [← hat]; simp)
        have hst := low_stp (a := a) ha.1 ha.2 v0 (by omega) (q := 1 + g) (by omega) (by omega)
        have hlen2 : l.length ≤ 12 := by
          have := congrArg List.length hat
          simp at this
          omega
        have happ := append_ok (ds := l.map dS) (d := dS (⟨a, (low v (1 + g)).1, (low v (1 + g)).2⟩ : Stp)) (by simp; omega)
        refine ⟨_, .nx, [some (.bx, dB b3), some (.sh, .list (ns.map .int)), j, some (.ow .sh, .list ((l ++ [(⟨a, (low v (1 + g)).1, (low v (1 + g)).2⟩ : Stp)]).map dS)), some (.sh, .int a), some (.sh, .int (1 + g))], rfl, ?_, b3, l ++ [(⟨a, (low v (1 + g)).1, (low v (1 + g)).2⟩ : Stp)], rs, some (.sh, .int a), some (.sh, .int (1 + g)), rfl, rfl, ?_, ?_⟩
        · unfold scB2
          have happ' : semAppend (l.map dS) [(.sh, .tuple [.int a, dR (low v (1 + g))])] = .ok (l.map dS ++ [dS (⟨a, (low v (1 + g)).1, (low v (1 + g)).2⟩ : Stp)], (.sh, .none)) := happ
          simp [e, hdr, hdr2, hlow, happ']
        · rw [← hat]; simp
        · intro s hs
          rcases List.mem_append.mp hs with hs | hs
          · exact hl s hs
          · rw [List.mem_singleton.mp hs]; exact hst) (by
      rintro S ⟨b, l, rs, j4, j5, rfl, hrest, hat, hl⟩
      cases rs with
      | cons => cases hrest
      | nil =>
        rw [List.append_nil] at hat
        exact ⟨rfl, b, l, j4, j5, rfl, hat, hl⟩) (ds := ((sortD ns).take 12).map .int) (S := [some (.bx, dB b1), some (.sh, .list (ns.map .int)), j, some (.ow .sh, .list []), none, none]) ⟨b1, [], (sortD ns).take 12, none, none, rfl, rfl, rfl, by simp⟩
  obtain ⟨fl, S', e2, rfl, b2, l, j4, j5, rfl, hat, hl⟩ := hloop2
  have hlen2 : l.length ≤ 12 := by
    have := congrArg List.length hat
    simp at this
    omega
  have hasc : (l.map (·.at_)).Pairwise (· < ·) := by rw [hat]; exact (sortD_lt ns).sublist (List.take_sublist _ _)
  have hin : ∃ t rest, sortD ns = t :: rest ∧ t = 0 := by
    cases hs : sortD ns with
    | nil =>
      have := sortD_mem.mpr h0
      rw [hs] at this
      simp at this
    | cons t rest =>
      refine ⟨t, rest, rfl, ?_⟩
      have hp := sortD_lt ns
      rw [hs] at hp
      have ht : 0 ≤ t := (hx t (sortD_mem.mp (by rw [hs]; simp))).1
      have h0' : (0 : Int) ∈ t :: rest := by rw [← hs]; exact sortD_mem.mpr h0
      rcases List.mem_cons.mp h0' with h | h
      · exact h.symm
      · have := (List.pairwise_cons.mp hp).1 0 h
        omega
  obtain ⟨t, trest, hs, rfl⟩ := hin
  refine ⟨l, b2, ?_, hl, hlen2, scale_is hl ?_ hlen2 ?_ hasc⟩
  · have hcut : cutD ((sortD ns).map PyData.int) none (some 12) = ((sortD ns).map PyData.int).take 12 := cut_to _ 12
    rw [List.map_take] at e2
    have hss : fSortSet (fVar 1) [some (.bx, dB b1), some (.ow .sh, .list (ns.map .int)), j, some (.ow .sh, .list []), none, none] = .ok ((.ow .sh, .list ((sortD ns).map .int)), [some (.bx, dB b1), some (.sh, .list (ns.map .int)), j, some (.ow .sh, .list []), none, none]) := by
      unfold fSortSet
      have hk : kidsL (.sh, .list (ns.map .int)) = .ok (ns.map .int) := rfl
      have hl64 : ns.length < 64 := by omega
      simp [hk, ints_map, hl64]
    unfold m__law_scale b__law_scale
    unfold scB1 at e1
    unfold scB2 at e2
    simp [mo, hn, hr, e1, hss, hcut, e2, dSc]
  · have := congrArg List.length hat
    rw [hs] at this
    simp at this
    omega
  · intro s rest e
    rw [e, hs] at hat
    simp at hat
    exact hat.1
end Yk65
set_option maxRecDepth 100000
set_option maxHeartbeats 4000000
namespace Yk65
open PySem O
def ratRest : FS :=
  sSeq (sAsg (gTp 2 (gsCons (gNm 5) (gsCons (gNm 6) (gsNil)))) (fN semTup (aCons (oV (fSh (fCall 2 [] m__law_lowest (aCons (oV (fVar 1)) (aCons (oV (fVar 2)) (aNil)))))) (aCons (oV (fSh (fCall 2 [] m__law_lowest (aCons (oV (fVar 3)) (aCons (oV (fVar 4)) (aNil)))))) (aNil))))) (
  sSeq (sIf (fOrT (fNotT (tB1 (fCall 2 [] (m__law_same 8) (aCons (oV (fCall 2 [] m_ratio (aCons (oV (fVar 1)) (aCons (oV (fVar 2)) (aNil))))) (aCons (oV (fVar 5)) (aNil)))))) (fOrT (fNotT (tB1 (fCall 2 [] (m__law_same 8) (aCons (oV (fCall 1 [] m_is_ratio (aCons (oV (fVar 5)) (aNil)))) (aCons (oV (fCon (.bool true))) (aNil)))))) (fNotT (tB1 (fCall 2 [] (m__law_same 8) (aCons (oV (fCall 2 [] m_ratio (aCons (oV (fCon (.int 0))) (aCons (oV (fVar 2)) (aNil))))) (aCons (oV (fN semTup (aCons (oV (fCon (.int 0))) (aCons (oV (fCon (.int 1))) (aNil))))) (aNil)))))))) (sRet (fCon (.bool false))) (sNil)) (
  sSeq (sIf (fOrT (fNotT (tB1 (fCall 2 [] (m__law_same 8) (aCons (oV (fCall 2 [] m_plus (aCons (oV (fVar 5)) (aCons (oV (fVar 6)) (aNil))))) (aCons (oV (fCall 2 [] m__law_lowest (aCons (oV (fOp2 semAdd (oV (fOp2 semMul (oP 1) (oP 4))) (oV (fOp2 semMul (oP 3) (oP 2))))) (aCons (oV (fOp2 semMul (oP 2) (oP 4))) (aNil))))) (aNil)))))) (fNotT (tB1 (fCall 2 [] (m__law_same 8) (aCons (oV (fCall 2 [] m_times (aCons (oV (fVar 5)) (aCons (oV (fVar 6)) (aNil))))) (aCons (oV (fCall 2 [] m__law_lowest (aCons (oV (fOp2 semMul (oP 1) (oP 3))) (aCons (oV (fOp2 semMul (oP 2) (oP 4))) (aNil))))) (aNil))))))) (sRet (fCon (.bool false))) (sNil)) (
  sSeq (sIf (fOrT (fNotT (tB1 (fCall 2 [] (m__law_same 8) (aCons (oV (fCall 2 [] m_less (aCons (oV (fVar 5)) (aCons (oV (fVar 6)) (aNil))))) (aCons (oV (fOp2 semLt (oV (fOp2 semMul (oV (fOp2 semIx (oP 5) (oV (fCon (.int 0))))) (oV (fOp2 semIx (oP 6) (oV (fCon (.int 1))))))) (oV (fOp2 semMul (oV (fOp2 semIx (oP 6) (oV (fCon (.int 0))))) (oV (fOp2 semIx (oP 5) (oV (fCon (.int 1))))))))) (aNil)))))) (fNotT (tB1 (fCall 2 [] (m__law_same 8) (aCons (oV (fCall 2 [] m_less (aCons (oV (fVar 5)) (aCons (oV (fVar 5)) (aNil))))) (aCons (oV (fCon (.bool false))) (aNil))))))) (sRet (fCon (.bool false))) (sNil)) (
  sSeq (sIf (fOrT (fNotT (tB1 (fCall 2 [] (m__law_same 8) (aCons (oV (fCall 1 [] m_rounded (aCons (oV (fVar 5)) (aNil)))) (aCons (oV (fCall 1 [] m__law_round (aCons (oV (fVar 5)) (aNil)))) (aNil)))))) (fNotT (tB1 (fCall 2 [] (m__law_same 8) (aCons (oV (fCall 1 [] m_rounded (aCons (oV (fCall 2 [] m__law_lowest (aCons (oV (fOp2 semAdd (oV (fOp2 semMul (oV (fCon (.int 2))) (oP 3))) (oV (fCon (.int 1))))) (aCons (oV (fCon (.int 2))) (aNil))))) (aNil)))) (aCons (oV (fOp2 semAdd (oP 3) (oV (fCon (.int 1))))) (aNil))))))) (sRet (fCon (.bool false))) (sNil)) (
  sSeq (sFor (fiSeq (fOp2 semAdd (oV (fN semLst (aCons (oV (fN semTup (aCons (oV (fVar 1)) (aCons (oV (fVar 2)) (aNil))))) (aCons (oV (fN semTup (aCons (oV (fVar 3)) (aCons (oV (fVar 4)) (aNil))))) (aCons (oV (fN semTup (aCons (oV (fOp2 semIx (oP 5) (oV (fCon (.int 0))))) (aCons (oV (fUn semNeg (fOp2 semIx (oP 5) (oV (fCon (.int 1)))))) (aNil))))) (aCons (oV (fN semTup (aCons (oV (fSh (fOp2 semMul (oV (fOp2 semIx (oP 5) (oV (fCon (.int 0))))) (oV (fCon (.int 2)))))) (aCons (oV (fSh (fOp2 semMul (oV (fOp2 semIx (oP 5) (oV (fCon (.int 1))))) (oV (fCon (.int 2)))))) (aNil))))) (aCons (oV (fN semTup (aCons (oV (fCon (.int 0))) (aCons (oV (fCon (.int 2))) (aNil))))) (aCons (oV (fN semTup (aCons (oV (fCon (.int 0))) (aCons (oV (fCon (.int 1))) (aNil))))) (aNil))))))))) (oV (fLc 9 [8] (fiA (onD rng1) (aCons (oV (fCon (.int 4))) (aNil))) (gNm 8) (ftYes) (fCall 2 [0] (m__law_bent 8) (aCons (oP 0) (aCons (oV (fVar 5)) (aNil)))))))) (gNm 7) (sIf (fNotT (tB1 (fCall 2 [] (m__law_same 8) (aCons (oV (fCall 1 [] m_is_ratio (aCons (oV (fVar 7)) (aNil)))) (aCons (oV (fCall 1 [] m__law_ratio_due (aCons (oV (fVar 7)) (aNil)))) (aNil)))))) (sRet (fCon (.bool false))) (sNil))) (
  sRet (fCon (.bool true))))))))
def ratLB : FS := (sIf (fNotT (tB1 (fCall 2 [] (m__law_same 8) (aCons (oV (fCall 1 [] m_is_ratio (aCons (oV (fVar 7)) (aNil)))) (aCons (oV (fCall 1 [] m__law_ratio_due (aCons (oV (fVar 7)) (aNil)))) (aNil)))))) (sRet (fCon (.bool false))) (sNil))
def ratTe : FE := (fCall 2 [0] (m__law_bent 8) (aCons (oP 0) (aCons (oV (fVar 5)) (aNil))))
theorem low_zero {q : Int} (hq : q ≠ 0) : low 0 q = (0, 1) := by
  rw [low_congr (p' := 0) (q' := 1) hq (by decide) (by simp)]
  decide +kernel
theorem low_plus {p q r s : Int} (hq : q ≠ 0) (hs : s ≠ 0) : low ((low p q).1 * (low r s).2 + (low r s).1 * (low p q).2) ((low p q).2 * (low r s).2) = low (p * s + r * q) (q * s) := by
  have h1 := low_is (p := p) hq
  have h2 := low_is (p := r) hs
  have e1 := h1.eq
  have e2 := h2.eq
  have p1 := h1.pos
  have p2 := h2.pos
  generalize low p q = a at *
  generalize low r s = b at *
  refine low_congr (by have := Int.mul_pos p1 p2; omega) (Int.mul_ne_zero hq hs) ?_
  calc (a.1 * b.2 + b.1 * a.2) * (q * s) = (a.1 * q) * (b.2 * s) + (b.1 * s) * (a.2 * q) := by rw [Int.add_mul]; congr 1 <;> ac_rfl
    _ = (p * a.2) * (b.2 * s) + (r * b.2) * (a.2 * q) := by rw [e1, e2]
    _ = (p * s + r * q) * (a.2 * b.2) := by rw [Int.add_mul]; congr 1 <;> ac_rfl
theorem low_times {p q r s : Int} (hq : q ≠ 0) (hs : s ≠ 0) : low ((low p q).1 * (low r s).1) ((low p q).2 * (low r s).2) = low (p * r) (q * s) := by
  have h1 := low_is (p := p) hq
  have h2 := low_is (p := r) hs
  have e1 := h1.eq
  have e2 := h2.eq
  have p1 := h1.pos
  have p2 := h2.pos
  generalize low p q = a at *
  generalize low r s = b at *
  refine low_congr (by have := Int.mul_pos p1 p2; omega) (Int.mul_ne_zero hq hs) ?_
  calc (a.1 * b.1) * (q * s) = (a.1 * q) * (b.1 * s) := by ac_rfl
    _ = (p * a.2) * (r * b.2) := by rw [e1, e2]
    _ = (p * r) * (a.2 * b.2) := by ac_rfl
theorem isRat_low {p q : Int} (hq : q ≠ 0) : isRat (dR (low p q)) = true := by
  obtain ⟨h1, h2, _⟩ := low_is (p := p) hq
  simp [dR, isRat, h1, h2]
theorem ratRest_ok (b : Bx) {p q r s : Int} (hp : p.natAbs < 2 ^ 120) (hq : q.natAbs < 2 ^ 120) (hr : r.natAbs < 2 ^ 120) (hs : s.natAbs < 2 ^ 120) (q0 : q ≠ 0) (s0 : s ≠ 0) :
    ∃ b' S', ratRest [some (.bx, dB b), some (.sh, .int p), some (.sh, .int q), some (.sh, .int r), some (.sh, .int s), none, none, none, none] = .ok (.rt (.sh, .bool true), some (.bx, dB b') :: S') := by
  have bm : ∀ {i : Int}, i.natAbs < 2 ^ 120 → i.natAbs < 2 ^ 1000 := fun h => b_mono h (by omega)
  have la := lowest_ok (p := p) q0 (b_mono hq (by omega))
  have lb := lowest_ok (p := r) s0 (b_mono hs (by omega))
  have ra := ratio_ok (p := p) q0 (b_mono hq (by omega))
  have r0 := ratio_ok (p := 0) q0 (b_mono hq (by omega))
  rw [low_zero q0] at r0
  have ia := is_ratio_ok (dR (low p q))
  rw [isRat_low q0] at ia
  have a1 : (low p q).1.natAbs < 2 ^ 120 := Nat.lt_of_le_of_lt (low_bd1 _ _) hp
  have a2 : (low p q).2.natAbs < 2 ^ 120 := Nat.lt_of_le_of_lt (low_bd2 _ _) hq
  have b1 : (low r s).1.natAbs < 2 ^ 120 := Nat.lt_of_le_of_lt (low_bd1 _ _) hr
  have b2 : (low r s).2.natAbs < 2 ^ 120 := Nat.lt_of_le_of_lt (low_bd2 _ _) hs
  have ap := (low_is (p := p) q0).pos
  have bp := (low_is (p := r) s0).pos
  have pl := plus_ok (bm a1) (bm a2) (bm b1) (bm b2) (by omega) (by omega)
  rw [low_plus q0 s0] at pl
  have tm := times_ok (bm a1) (bm a2) (bm b1) (bm b2) (by omega) (by omega)
  rw [low_times q0 s0] at tm
  have qs0 : q * s ≠ 0 := Int.mul_ne_zero q0 s0
  have qsb := b_mono (b_mul hq hs) (b := 4000) (by omega)
  have l2 := lowest_ok (p := p * s + r * q) qs0 qsb
  have l3 := lowest_ok (p := p * r) qs0 qsb
  have ls := less_ok (b_mono a1 (by omega)) (b_mono a2 (by omega)) (b_mono b1 (by omega)) (b_mono b2 (by omega))
  have ls2 := less_ok (b_mono a1 (by omega)) (b_mono a2 (by omega)) (b_mono a1 (by omega)) (b_mono a2 (by omega))
  rw [decide_eq_false (by omega : ¬ (low p q).1 * (low p q).2 < (low p q).1 * (low p q).2)] at ls2
  have rn := rounded_ok (b_mono a1 (by omega)) (b_mono a2 (by omega)) ap
  have rn2 := round_ok (b_mono a1 (by omega)) (b_mono a2 (by omega)) ap
  have l4 := lowest_ok (p := 2 * r + 1) (q := 2) (by decide) (b_mono (i := 2) (a := 2) (by decide) (by omega))
  have c1 : (low (2 * r + 1) 2).1.natAbs < 2 ^ 122 := Nat.lt_of_le_of_lt (low_bd1 _ _) (by omega)
  have c2 : (low (2 * r + 1) 2).2.natAbs < 2 ^ 122 := Nat.lt_of_le_of_lt (low_bd2 _ _) (by decide)
  have rn3 := rounded_ok (b_mono c1 (by omega)) (b_mono c2 (by omega)) (low_is (p := 2 * r + 1) (q := 2) (by decide)).pos
  rw [rnd_low (by decide), show (2 * (2 * r + 1) + 2) / (2 * 2) = r + 1 by omega] at rn3
  have m1 := mulOk_of hp hs (by omega)
  have m2 := mulOk_of hr hq (by omega)
  have m3 := mulOk_of hq hs (by omega)
  have m4 := mulOk_of hp hr (by omega)
  have m5 := mulOk_of a1 b2 (by omega)
  have m6 := mulOk_of b1 a2 (by omega)
  have m7 : MuOk 2 r := mulOk_of (a := 2) (by decide) hr (by omega)
  have m8 : MuOk (low p q).1 2 := mulOk_of (b := 2) a1 (by decide) (by omega)
  have m9 : MuOk (low p q).2 2 := mulOk_of (b := 2) a2 (by decide) (by omega)
  have sb : ∀ x, m__law_same 8 [(.sh, .bool x), (.sh, .bool x)] = .ok ((.sh, .bool true), []) := same_bl 7
  have si : ∀ x, m__law_same 8 [(.sh, .int x), (.sh, .int x)] = .ok ((.sh, .bool true), []) := same_int 7
  have sr : ∀ x, m__law_same 8 [(.sh, dR x), (.sh, dR x)] = .ok ((.sh, .bool true), []) := same_dR 6
  have s01 := sr (0, 1)
  generalize hA : low p q = A at *
  generalize hB : low r s = B at *
  have hTin : Tin 8 (dR A) := .tup (by simp) fun d hd => by
    simp at hd
    rcases hd with rfl | rfl
    · exact .int (b_mono a1 (by omega))
    · exact .int (b_mono a2 (by omega))
  obtain ⟨us, S1, e1, ⟨b', rfl⟩, hlen, hus⟩ := lc_inv (vs := [8]) (g := gNm 8) (tt := ftYes) (te := ratTe) (ds := natsD 4) (acc := []) (S := [some (.bx, dB b), some (.sh, .int p), some (.sh, .int q), some (.sh, .int r), some (.sh, .int s), some (.sh, dR A), some (.sh, dR B), none, none])
    (Inv := fun S => ∃ b, S = [some (.bx, dB b), some (.sh, .int p), some (.sh, .int q), some (.sh, .int r), some (.sh, .int s), some (.sh, dR A), some (.sh, dR B), none, none]) (P := fun _ v => bdD 160 v) (by
      rintro d hd S ⟨b, rfl⟩
      obtain ⟨u, b', e, hu⟩ := bent_ok 8 (dR A) b hTin
      refine ⟨(.sh, u), _, u, ?_, ⟨b', rfl⟩, rfl, hu⟩
      unfold ratTe
      simp [itD, e]) ⟨b, rfl⟩ (by simp)
  have hbd : ∀ v ∈ [dR (p, q), dR (r, s), dR (A.1, -A.2), dR (A.1 * 2, A.2 * 2), dR (0, 2), dR (0, 1)] ++ us, bdD 160 v := by
    intro v hv
    rcases List.mem_append.mp hv with hv | hv
    · simp only [List.mem_cons, List.not_mem_nil, or_false] at hv
      rcases hv with rfl | rfl | rfl | rfl | rfl | rfl <;> simp [dR, bdAll] <;> omega
    · obtain ⟨_, _, h⟩ := hus v hv
      exact h
  have hloop := for_inv (g := gNm 7) (body := ratLB) (Inv := fun rest S => (∀ v ∈ rest, bdD 160 v) ∧ ∃ j, S = [some (.bx, dB b'), some (.sh, .int p), some (.sh, .int q), some (.sh, .int r), some (.sh, .int s), some (.sh, dR A), some (.sh, dR B), j, none])
    (Post := fun fl S => fl = .nx ∧ ∃ j, S = [some (.bx, dB b'), some (.sh, .int p), some (.sh, .int q), some (.sh, .int r), some (.sh, .int s), some (.sh, dR A), some (.sh, dR B), j, none]) (by
      rintro d rest S ⟨hb, j, rfl⟩
      have hd := hb d List.mem_cons_self
      have i1 := is_ratio_ok d
      have i2 := ratio_due_ok d (fun x y e => by
        subst e
        rw [bdD_tup] at hd
        have := hd.2.1
        cases y <;> simp [bdI]
        rw [bdD_int] at this
        exact b_mono this (by omega))
      refine ⟨_, .nx, [some (.bx, dB b'), some (.sh, .int p), some (.sh, .int q), some (.sh, .int r), some (.sh, .int s), some (.sh, dR A), some (.sh, dR B), some (.sh, d), none], rfl, ?_, fun v hv => hb v (List.mem_cons_of_mem _ hv), some (.sh, d), rfl⟩
      unfold ratLB
      simp [i1, i2, sb]) (by
      rintro S ⟨_, j, rfl⟩
      exact ⟨rfl, j, rfl⟩) (ds := [dR (p, q), dR (r, s), dR (A.1, -A.2), dR (A.1 * 2, A.2 * 2), dR (0, 2), dR (0, 1)] ++ us) (S := [some (.bx, dB b'), some (.sh, .int p), some (.sh, .int q), some (.sh, .int r), some (.sh, .int s), some (.sh, dR A), some (.sh, dR B), none, none]) ⟨hbd, none, rfl⟩
  obtain ⟨fl, S', e2, rfl, j, rfl⟩ := hloop
  have hadd := add_ow (xs := [dR (p, q), dR (r, s), dR (A.1, -A.2), dR (A.1 * 2, A.2 * 2), dR (0, 2), dR (0, 1)]) (ys := us) (by rw [hlen]; simp)
  have hrg : onD rng1 [(.sh, .int 4)] = .ok (natsD 4) := rng_ok4 (m := .sh) (n := 4) (by decide)
  unfold ratTe at e1
  unfold ratLB at e2
  simp only [List.cons_append, List.nil_append] at e2
  refine ⟨b', [some (.sh, .int p), some (.sh, .int q), some (.sh, .int r), some (.sh, .int s), some (.sh, dR A), some (.sh, dR B), j, none], ?_⟩
  · unfold ratRest
    have x0 : ∀ (R : Int × Int) m, semIx (.sh, dR R) (m, .int 0) = .ok (.sh, .int R.1) := fun R m => ixR0
    have x1 : ∀ (R : Int × Int) m, semIx (.sh, dR R) (m, .int 1) = .ok (.sh, .int R.2) := fun R m => ixR1
    have f2 : ∀ x y : Int, PyData.tuple [.int x, .int y] = dR (x, y) := fun _ _ => rfl
    simp [la, lb, ra, r0, ia, pl, tm, l2, l3, ls, ls2, rn, rn2, l4, rn3, m1, m2, m3, m4, m5, m6, m7, m8, m9, sb, si, sr, f2, x0, x1, hadd, hrg, e1, e2]
theorem ratios_fine_ok (b : Bx) : ∃ b', m__law_ratios_fine [(.bx, dB b)] = .ok ((.sh, .bool true), [(.bx, dB b')]) := by
  obtain ⟨p, b1, e1, hp⟩ := integer_ok b
  obtain ⟨q, b2, e2, hq⟩ := integer_ok b1
  obtain ⟨r, b3, e3, hr⟩ := integer_ok b2
  obtain ⟨s, b4, e4, hs⟩ := integer_ok b3
  obtain ⟨q', hq', q0, qe⟩ : ∃ q' : Int, q'.natAbs < 2 ^ 120 ∧ q' ≠ 0 ∧ q' = if q = 0 then 1 else q := by
    by_cases h : q = 0
    · exact ⟨1, by decide, by decide, by rw [if_pos h]⟩
    · exact ⟨q, hq, h, by rw [if_neg h]⟩
  obtain ⟨s', hs', s0, se⟩ : ∃ s' : Int, s'.natAbs < 2 ^ 120 ∧ s' ≠ 0 ∧ s' = if s = 0 then -2 else s := by
    by_cases h : s = 0
    · exact ⟨-2, by decide, by decide, by rw [if_pos h]⟩
    · exact ⟨s, hs, h, by rw [if_neg h]⟩
  obtain ⟨b', S', e⟩ := ratRest_ok b4 hp hq' hr hs' q0 s0
  refine ⟨b', ?_⟩
  have hb : b__law_ratios_fine = sSeq _ (sSeq _ ratRest) := rfl
  unfold m__law_ratios_fine
  rw [hb]
  by_cases h1 : q = 0
  · have h1' : q = 0 := h1
    rw [if_pos h1] at qe
    subst qe
    by_cases h2 : s = 0
    · have h2' : s = 0 := h2
      rw [if_pos h2] at se
      subst se
      simp [e1, e2, e3, e4, h1', h2', e]
    · have h2' : ¬ s = 0 := h2
      rw [if_neg h2] at se
      subst se
      simp [e1, e2, e3, e4, h1', h2', e]
  · have h1' : ¬ q = 0 := h1
    rw [if_neg h1] at qe
    subst qe
    by_cases h2 : s = 0
    · have h2' : s = 0 := h2
      rw [if_pos h2] at se
      subst se
      simp [e1, e2, e3, e4, h1', h2', e]
    · have h2' : ¬ s = 0 := h2
      rw [if_neg h2] at se
      subst se
      simp [e1, e2, e3, e4, h1', h2', e]
end Yk65
set_option maxRecDepth 100000
set_option maxHeartbeats 4000000
namespace Yk65
open PySem O
def lwA : FS := (sIf (fNotT (tB1 (fCall 1 [0] m__law_ratios_fine (aCons (oP 1) (aNil))))) (sRet (fCon (.bool false))) (sNil))
def lwB : FS := (sSeq (sAsg (gNm 4) (fCall 2 [0] (m__law_bent 8) (aCons (oP 1) (aCons (oV (fVar 3)) (aNil))))) (
  sIf (fNotT (tB1 (fCall 2 [] (m__law_same 8) (aCons (oV (fCall 1 [] m_is_scale (aCons (oV (fVar 4)) (aNil)))) (aCons (oV (fCall 1 [] m__law_scale_due (aCons (oV (fVar 4)) (aNil)))) (aNil)))))) (sRet (fCon (.bool false))) (sNil)))
def lwE : FE := (fN semTup (aCons (oV (fSh (fOp2 semMul (oP 6) (oV (fCon (.int 5)))))) (aCons (oV (fN semTup (aCons (oV (fCon (.int 1))) (aCons (oV (fSh (fOp2 semAdd (oP 6) (oV (fCon (.int 1)))))) (aNil))))) (aNil))))
def lwW : FE := (fOp2 semIx (oP 8) (oV (fCon (.int 0))))
def lwC : FS := (sSeq (sAsg (gNm 10) (fCall 2 [] m__law_fee (aCons (oV (fVar 3)) (aCons (oV (fVar 9)) (aNil))))) (
  sSeq (sIf (fOrT (fNotT (tB1 (fCall 2 [] (m__law_same 8) (aCons (oV (fCall 2 [] m_fee (aCons (oV (fVar 3)) (aCons (oV (fVar 9)) (aNil))))) (aCons (oV (fVar 10)) (aNil)))))) (fNotT (tB1 (fCall 2 [] (m__law_same 8) (aCons (oV (fCall 2 [] m_fee_cents (aCons (oV (fVar 3)) (aCons (oV (fVar 9)) (aNil))))) (aCons (oV (fCall 1 [] m__law_round (aCons (oV (fVar 10)) (aNil)))) (aNil))))))) (sRet (fCon (.bool false))) (sNil)) (
  sIf (fOrT (fNotT (tB1 (fCall 2 [] m__law_worth_fine (aCons (oV (fVar 3)) (aCons (oV (fCall 1 [] m__law_round (aCons (oV (fVar 10)) (aNil)))) (aNil)))))) (fNotT (tB1 (fCall 2 [] m__law_worth_fine (aCons (oV (fVar 3)) (aCons (oV (fOp2 semAdd (oV (fCall 1 [] m__law_round (aCons (oV (fVar 10)) (aNil)))) (oV (fCon (.int 1))))) (aNil))))))) (sRet (fCon (.bool false))) (sNil))))
theorem Tin_sc {l : List Stp} (hl : ∀ s ∈ l, StpOk s) (hn : l.length ≤ 12) : Tin 8 (dSc l) := by
  refine .tup (by simp; omega) fun d hd => ?_
  obtain ⟨s, hs, rfl⟩ := List.mem_map.mp hd
  obtain ⟨a0, a1, n0, n1, d0, d1, c⟩ := hl s hs
  refine .tup (by simp) fun d hd => ?_
  simp only [List.mem_cons, List.not_mem_nil, or_false] at hd
  rcases hd with rfl | rfl
  · exact .int (by omega)
  · refine .tup (by simp) fun d hd => ?_
    simp only [List.mem_cons, List.not_mem_nil, or_false] at hd
    rcases hd with rfl | rfl
    · exact .int (by show s.num.natAbs < _; omega)
    · exact .int (by show s.den.natAbs < _; omega)
def twelveF : D → D
  | .int k => .tuple [.int (k * 5), .tuple [.int 1, .int (k + 1)]]
  | _ => .none
theorem twelve_bd {n : Nat} (hn : n ≤ 13) : ∀ d ∈ (natsD n).map twelveF, bdD 4000 d := by
  intro d hd
  obtain ⟨x, hx, rfl⟩ := List.mem_map.mp hd
  obtain ⟨i, hi, rfl⟩ := mem_natsD hx
  have b1 : ((i : Int) * 5).natAbs < 2 ^ 10 := by omega
  have b2 : ((i : Int) + 1).natAbs < 2 ^ 10 := by omega
  have b3 : (1 : Int).natAbs < 2 ^ 10 := by decide
  simp only [twelveF, bdD_tup, bdAll, bdD_int]
  exact ⟨b_mono b1 (by omega), ⟨b_mono b3 (by omega), b_mono b2 (by omega), trivial⟩, trivial⟩
theorem law_all (ns : List Int) (hns : ns.length ≤ 63) : runLaw 9 b_law ns = .ok (.sh, .bool true) := by
  have sb : ∀ x, m__law_same 8 [(.sh, .bool x), (.sh, .bool x)] = .ok ((.sh, .bool true), []) := same_bl 7
  have si : ∀ x, m__law_same 8 [(.sh, .int x), (.sh, .int x)] = .ok ((.sh, .bool true), []) := same_int 7
  have sr : ∀ x, m__law_same 8 [(.sh, dR x), (.sh, dR x)] = .ok ((.sh, .bool true), []) := same_dR 6
  -- the three turns
  have hA := for_inv (g := gNm 2) (body := lwA) (Inv := fun _ S => ∃ (b : Bx) (j : Option MV), S = [none, some (.bx, dB b), j, none, none, none, none, none, none, none, none])
    (Post := fun fl S => fl = .nx ∧ ∃ (b : Bx) (j : Option MV), S = [none, some (.bx, dB b), j, none, none, none, none, none, none, none, none]) (by
      rintro d rest S ⟨b, j, rfl⟩
      obtain ⟨b', e⟩ := ratios_fine_ok b
      refine ⟨_, .nx, [none, some (.bx, dB b'), some (.sh, d), none, none, none, none, none, none, none, none], rfl, ?_, b', some (.sh, d), rfl⟩
      unfold lwA
      simp [e]) (by
      rintro S ⟨b, j, rfl⟩
      exact ⟨rfl, b, j, rfl⟩) (ds := natsD 3) (S := [none, some (.bx, boxD ns), none, none, none, none, none, none, none, none, none]) ⟨_, none, by rw [boxD_eq]⟩
  obtain ⟨fl, S', eA, rfl, b, j, rfl⟩ := hA
  obtain ⟨l, b1, esc, hl, hn, hsc⟩ := scale_ok b
  have hT := Tin_sc hl hn
  have hbd : bdD 4000 (dSc l) := bdD_mono (by decide) _ hT.bd
  have isc := is_scale_ok (dSc l) hbd
  rw [hsc] at isc
  have hB := for_inv (g := gNm 2) (body := lwB) (Inv := fun _ S => ∃ (b : Bx) (j j2 : Option MV), S = [none, some (.bx, dB b), j, some (.sh, dSc l), j2, none, none, none, none, none, none])
    (Post := fun fl S => fl = .nx ∧ ∃ (b : Bx) (j j2 : Option MV), S = [none, some (.bx, dB b), j, some (.sh, dSc l), j2, none, none, none, none, none, none]) (by
      rintro d rest S ⟨b, j, j2, rfl⟩
      obtain ⟨u, b', e, hu⟩ := bent_ok 8 (dSc l) b hT
      have hu' := bdD_mono (b := 4000) (by decide) u hu
      have i1 := is_scale_ok u hu'
      have i2 := scale_due_ok u hu'
      refine ⟨_, .nx, [none, some (.bx, dB b'), some (.sh, d), some (.sh, dSc l), some (.sh, u), none, none, none, none, none, none], rfl, ?_, b', some (.sh, d), some (.sh, u), rfl⟩
      unfold lwB
      simp [e, i1, i2, sb]) (by
      rintro S ⟨b, j, j2, rfl⟩
      exact ⟨rfl, b, j, j2, rfl⟩) (ds := natsD 10) (S := [none, some (.bx, dB b1), j, some (.sh, dSc l), none, none, none, none, none, none, none]) ⟨_, _, _, rfl⟩
  obtain ⟨fl, S', eB, rfl, b2, j1, j2, rfl⟩ := hB
  have eT : lcD [6] (gNm 6) ftYes lwE (natsD 13) [] [none, some (.bx, dB b2), j1, some (.sh, dSc l), j2, none, none, none, none, none, none] = .ok ((natsD 13).map twelveF, [none, some (.bx, dB b2), j1, some (.sh, dSc l), j2, none, none, none, none, none, none]) :=
    lc_map2 twelveF (by
      intro d hd
      obtain ⟨i, hi, rfl⟩ := mem_natsD hd
      have m1 : MuOk (i : Int) 5 := mulOk_of (a := 10) (b := 10) (by omega) (by decide) (by omega)
      unfold lwE
      simp [itD, m1, twelveF]) (by simp)
  have i13 := is_scale_ok (.tuple ((natsD 13).map twelveF)) (by rw [bdD_tup]; exact bdAll_of (twelve_bd (by decide)))
  rw [show isScale (.tuple ((natsD 13).map twelveF)) = false by decide +kernel] at i13
  have i12 := is_scale_ok (.tuple (((natsD 13).map twelveF).take 12)) (by rw [bdD_tup]; exact bdAll_of fun d hd => twelve_bd (n := 13) (by decide) d (List.mem_of_mem_take hd))
  rw [show isScale (.tuple (((natsD 13).map twelveF).take 12)) = true by decide +kernel] at i12
  have hcut : cutD ((natsD 13).map twelveF) none (some 12) = ((natsD 13).map twelveF).take 12 := cut_to _ 12
  have hne : semNe (.sh, .tuple [.int 12, .int 1000000000]) (.sh, .tuple [.int 12, .int 1000000000]) = .ok (.sh, .bool false) := by rfl
  have eW : ∀ S5 : Option MV, lcD [8] (gNm 8) ftYes lwW (l.map dS) [] [none, some (.bx, dB b2), j1, some (.sh, dSc l), j2, S5, none, none, none, none, none] = .ok ((l.map dS).map (fun d => .int (startD d)), [none, some (.bx, dB b2), j1, some (.sh, dSc l), j2, S5, none, none, none, none, none]) := fun S5 =>
    lc_map2 (fun d => .int (startD d)) (by
      intro d hd
      obtain ⟨s, hs, rfl⟩ := List.mem_map.mp hd
      have q := ix_start (m := .sh) (isStep_of (hl s hs))
      unfold lwW
      simp [itD, q]) (by simp; omega)
  have hdr1 := draw_ok b2 (k := 1000000001) (by decide) (by decide)
  have hdr2 := draw_ok (b2.nxt 1000000001) (k := 400) (by decide) (by decide)
  generalize (b2.nxt 1000000001).nxt 400 = b3 at *
  generalize (b2.nxt 1000000001).dig 400 = w2 at *
  generalize b2.dig 1000000001 = w1 at *
  generalize hWl : ([.int 0, .int 1000000000] ++ (l.map dS).map (fun d => .int (startD d)) : List D) = W1 at *
  have hW1 : ∀ d ∈ W1 ++ [.int w1, .int w2], ∃ w : Int, d = .int w := by
    intro d hd
    rw [← hWl] at hd
    simp only [List.mem_append, List.mem_cons, List.not_mem_nil, or_false, List.mem_map] at hd
    rcases hd with ((rfl | rfl) | ⟨x, _, rfl⟩) | rfl | rfl <;> exact ⟨_, rfl⟩
  have hW2 : W1.length ≤ 20 := by rw [← hWl]; simp; omega
  have ad1 := add_ow (xs := [.int 0, .int 1000000000]) (ys := (l.map dS).map (fun d => PyData.int (startD d))) (by simp; omega)
  rw [hWl] at ad1
  have ad2 := add_ow (xs := W1) (ys := [.int w1, .int w2]) (by simp; omega)
  have hC := fun j5 => for_inv (g := gNm 9) (body := lwC) (Inv := fun rest S => (∀ d ∈ rest, ∃ w : Int, d = .int w) ∧ ∃ (j9 j10 : Option MV), S = [none, some (.bx, dB b3), j1, some (.sh, dSc l), j2, j5, none, some (.sh, .list (W1 ++ [.int w1, .int w2])), none, j9, j10])
    (Post := fun fl S => fl = .nx ∧ ∃ (j9 j10 : Option MV), S = [none, some (.bx, dB b3), j1, some (.sh, dSc l), j2, j5, none, some (.sh, .list (W1 ++ [.int w1, .int w2])), none, j9, j10]) (by
      rintro d rest S ⟨hr, j9, j10, rfl⟩
      obtain ⟨w, rfl⟩ := hr d List.mem_cons_self
      have f1 := law_fee_ok hl hn w
      have f2 := fee_ok hl hn w
      have c1 := law_cents_ok hl hn w
      have c2 := cents_ok hl hn w
      have w1 := worth_fine_ok hl hn (cen l w)
      have w2 := worth_fine_ok hl hn (cen l w + 1)
      refine ⟨_, .nx, _, rfl, ?_, fun x hx => hr x (List.mem_cons_of_mem _ hx), some (.sh, .int w), some (.sh, dR (low (feeG l w (0, 1)).1 (feeG l w (0, 1)).2)), rfl⟩
      unfold lwC
      simp [f1, f2, c1, c2, sr, si, w1, w2]) (by
      rintro S ⟨_, j9, j10, rfl⟩
      exact ⟨rfl, j9, j10, rfl⟩) (ds := W1 ++ [.int w1, .int w2]) (S := [none, some (.bx, dB b3), j1, some (.sh, dSc l), j2, j5, none, some (.sh, .list (W1 ++ [.int w1, .int w2])), none, none, none]) ⟨hW1, none, none, rfl⟩
  obtain ⟨fl, S', eC, rfl, j9, j10, rfl⟩ := hC (some (.sh, .tuple ((natsD 13).map twelveF)))
  have wl := worth_fine_ok hl hn (b3.dig 60)
  have r3 : onD rng1 [(.sh, .int 3)] = .ok (natsD 3) := rng_ok4 (m := .sh) (n := 3) (by decide)
  have r10 : onD rng1 [(.sh, .int 10)] = .ok (natsD 10) := rng_ok4 (m := .sh) (n := 10) (by decide)
  have r13 : onD rng1 [(.sh, .int 13)] = .ok (natsD 13) := rng_ok4 (m := .sh) (n := 13) (by decide)
  have hb : b_law = sSeq (sFor (fiA (onD rng1) (aCons (oV (fCon (.int 3))) (aNil))) (gNm 2) lwA) (sSeq _ (sSeq _ (sSeq (sFor (fiA (onD rng1) (aCons (oV (fCon (.int 10))) (aNil))) (gNm 2) lwB) (sSeq (sAsg (gNm 5) (fN semTupOf (aCons (oV (fLc 11 [6] (fiA (onD rng1) (aCons (oV (fCon (.int 13))) (aNil))) (gNm 6) ftYes lwE)) aNil))) (sSeq _ (sSeq (sAsg (gNm 7) (fOp2 semAdd (oV (fOp2 semAdd _ (oV (fLc 11 [8] (fiSeq (fVar 3)) (gNm 8) ftYes lwW)))) _)) (sSeq (sFor (fiSeq (fVar 7)) (gNm 9) lwC) _))))))) := rfl
  unfold runLaw
  rw [hb]
  simp only [dSc] at isc eB eC esc eW wl eT
  simp [r3, eA, esc, k_MAX_STEPS, k_MAX_WORTH, hne, isc, sb, r10, eB, r13, eT, i13, hcut, i12, eW, hdr1, hdr2, ad1, ad2, eC, wl, -List.map_map]
end Yk65
set_option maxRecDepth 100000
open PySem PySem.W PyProof.Rows
set_option maxHeartbeats 0 in
theorem PySem.Challenge.cw_backtohand_k65_ratios_and_scales_holds : PySem.Challenge.rw_backtohand_k65_ratios_and_scales.Holds := by
  w_on; o_law; k_head; (case hw => w_witness2)
  k_fill
  refine O.walk_ofTabs (l := PySem.Challenge.rw_backtohand_k65_ratios_and_scales) (n := 63) (k := 13) (x := "script") (CX := fun _ => C8.CX0) rfl (by decide) rfl ⟨rfl, by decide, by decide⟩ (fun w h Y => PySem.W.kIn_of Y) ?F (fun _ _ _ _ _ h => h)
  case F =>
    intro w mg fa h Y KX G hmg TT
    refine' Yk65.all_mk KX G hmg TT ?a_is_number ?l_is_number ?c_is_number ?k_is_number ?a_is_ratio ?l_is_ratio ?c_is_ratio ?k_is_ratio ?a_ratio ?l_ratio ?c_ratio ?k_ratio ?a_plus ?l_plus ?c_plus ?k_plus ?a_times ?l_times ?c_times ?k_times ?a_less ?l_less ?c_less ?k_less ?a_rounded ?l_rounded ?c_rounded ?k_rounded ?a_is_step ?l_is_step ?c_is_step ?k_is_step ?a_is_scale ?l_is_scale ?c_is_scale ?k_is_scale ?a_fee ?l_fee ?c_fee ?k_fee ?a_fee_cents ?l_fee_cents ?c_fee_cents ?k_fee_cents ?a_worth_for ?l_worth_for ?c_worth_for ?k_worth_for ?a__law_box ?l__law_box ?c__law_box ?k__law_box ?a__law_load ?l__law_load ?c__law_load ?k__law_load ?a__law_draw ?l__law_draw ?c__law_draw ?k__law_draw ?a__law_same ?l__law_same ?c__law_same ?k__law_same ?a__law_bent ?l__law_bent ?c__law_bent ?k__law_bent ?a__law_common ?l__law_common ?c__law_common ?k__law_common ?a__law_lowest ?l__law_lowest ?c__law_lowest ?k__law_lowest ?a__law_ratio_due ?l__law_ratio_due ?c__law_ratio_due ?k__law_ratio_due ?a__law_integer ?l__law_integer ?c__law_integer ?k__law_integer ?a__law_scale_due ?l__law_scale_due ?c__law_scale_due ?k__law_scale_due ?a__law_scale ?l__law_scale ?c__law_scale ?k__law_scale ?a__law_fee ?l__law_fee ?c__law_fee ?k__law_fee ?a__law_round ?l__law_round ?c__law_round ?k__law_round ?a__law_refused ?l__law_refused ?c__law_refused ?k__law_refused ?a__law_worth_fine ?l__law_worth_fine ?c__law_worth_fine ?k__law_worth_fine ?a__law_ratios_fine ?l__law_ratios_fine ?c__law_ratios_fine ?k__law_ratios_fine ?a_law ?l_law ?c_law ?k_law ?w_is_ratio ?u_is_ratio ?t_is_ratio ?n_is_ratio ?r_is_ratio ?w_is_scale ?u_is_scale ?t_is_scale ?n_is_scale ?r_is_scale ?z_abs ?z_all ?z_bool ?z_enumerate ?z_int ?z_isinstance ?z_len ?z_list ?z_max ?z_min ?z_range ?z_set ?z_sorted ?z_str ?z_tuple ?i_gcd ?g_MAX_STEPS ?d_MAX_STEPS ?g_MAX_WORTH ?d_MAX_WORTH ?g_NOTHING ?d_NOTHING ?g_ONE ?d_ONE ?eC ?xC ?kC ?tC ?sC ?h1 ?h2 ?h3 ?h4 ?h5 ?h6 ?h7 ?h8 ?e1 ?e2 ?e3 ?e4 ?m1 ?m2 ?m3 ?m4 Yk65.law_all
    (case a_is_number => k_is)
    (case l_is_number => k_is)
    (case c_is_number => k_is)
    (case k_is_number => k_is)
    (case a_is_ratio => k_is)
    (case l_is_ratio => k_is)
    (case c_is_ratio => k_is)
    (case k_is_ratio => k_is)
    (case a_ratio => k_is)
    (case l_ratio => k_is)
    (case c_ratio => k_is)
    (case k_ratio => k_is)
    (case a_plus => k_is)
    (case l_plus => k_is)
    (case c_plus => k_is)
    (case k_plus => k_is)
    (case a_times => k_is)
    (case l_times => k_is)
    (case c_times => k_is)
    (case k_times => k_is)
    (case a_less => k_is)
    (case l_less => k_is)
    (case c_less => k_is)
    (case k_less => k_is)
    (case a_rounded => k_is)
    (case l_rounded => k_is)
    (case c_rounded => k_is)
    (case k_rounded => k_is)
    (case a_is_step => k_is)
    (case l_is_step => k_is)
    (case c_is_step => k_is)
    (case k_is_step => k_is)
    (case a_is_scale => k_is)
    (case l_is_scale => k_is)
    (case c_is_scale => k_is)
    (case k_is_scale => k_is)
    (case a_fee => k_is)
    (case l_fee => k_is)
    (case c_fee => k_is)
    (case k_fee => k_is)
    (case a_fee_cents => k_is)
    (case l_fee_cents => k_is)
    (case c_fee_cents => k_is)
    (case k_fee_cents => k_is)
    (case a_worth_for => k_is)
    (case l_worth_for => k_is)
    (case c_worth_for => k_is)
    (case k_worth_for => k_is)
    (case a__law_box => k_is)
    (case l__law_box => k_is)
    (case c__law_box => k_is)
    (case k__law_box => k_is)
    (case a__law_load => k_is)
    (case l__law_load => k_is)
    (case c__law_load => k_is)
    (case k__law_load => k_is)
    (case a__law_draw => k_is)
    (case l__law_draw => k_is)
    (case c__law_draw => k_is)
    (case k__law_draw => k_is)
    (case a__law_same => k_is)
    (case l__law_same => k_is)
    (case c__law_same => k_is)
    (case k__law_same => k_is)
    (case a__law_bent => k_is)
    (case l__law_bent => k_is)
    (case c__law_bent => k_is)
    (case k__law_bent => k_is)
    (case a__law_common => k_is)
    (case l__law_common => k_is)
    (case c__law_common => k_is)
    (case k__law_common => k_is)
    (case a__law_lowest => k_is)
    (case l__law_lowest => k_is)
    (case c__law_lowest => k_is)
    (case k__law_lowest => k_is)
    (case a__law_ratio_due => k_is)
    (case l__law_ratio_due => k_is)
    (case c__law_ratio_due => k_is)
    (case k__law_ratio_due => k_is)
    (case a__law_integer => k_is)
    (case l__law_integer => k_is)
    (case c__law_integer => k_is)
    (case k__law_integer => k_is)
    (case a__law_scale_due => k_is)
    (case l__law_scale_due => k_is)
    (case c__law_scale_due => k_is)
    (case k__law_scale_due => k_is)
    (case a__law_scale => k_is)
    (case l__law_scale => k_is)
    (case c__law_scale => k_is)
    (case k__law_scale => k_is)
    (case a__law_fee => k_is)
    (case l__law_fee => k_is)
    (case c__law_fee => k_is)
    (case k__law_fee => k_is)
    (case a__law_round => k_is)
    (case l__law_round => k_is)
    (case c__law_round => k_is)
    (case k__law_round => k_is)
    (case a__law_refused => k_is)
    (case l__law_refused => k_is)
    (case c__law_refused => k_is)
    (case k__law_refused => k_is)
    (case a__law_worth_fine => k_is)
    (case l__law_worth_fine => k_is)
    (case c__law_worth_fine => k_is)
    (case k__law_worth_fine => k_is)
    (case a__law_ratios_fine => k_is)
    (case l__law_ratios_fine => k_is)
    (case c__law_ratios_fine => k_is)
    (case k__law_ratios_fine => k_is)
    (case a_law => k_is)
    (case l_law => k_is)
    (case c_law => k_is)
    (case k_law => k_is)
    (case w_is_ratio => k_is)
    (case u_is_ratio => exact rfl)
    (case t_is_ratio => kernel_rfl)
    (case n_is_ratio => kernel_rfl)
    (case r_is_ratio => kernel_rfl)
    (case w_is_scale => k_is)
    (case u_is_scale => exact rfl)
    (case t_is_scale => kernel_rfl)
    (case n_is_scale => kernel_rfl)
    (case r_is_scale => kernel_rfl)
    (case z_abs => k_is)
    (case z_all => k_is)
    (case z_bool => k_is)
    (case z_enumerate => k_is)
    (case z_int => k_is)
    (case z_isinstance => k_is)
    (case z_len => k_is)
    (case z_list => k_is)
    (case z_max => k_is)
    (case z_min => k_is)
    (case z_range => k_is)
    (case z_set => k_is)
    (case z_sorted => k_is)
    (case z_str => k_is)
    (case z_tuple => k_is)
    (case i_gcd => k_is)
    (case g_MAX_STEPS => k_is)
    (case d_MAX_STEPS => kernel_rfl)
    (case g_MAX_WORTH => k_is)
    (case d_MAX_WORTH => kernel_rfl)
    (case g_NOTHING => k_is)
    (case d_NOTHING => kernel_rfl)
    (case g_ONE => k_is)
    (case d_ONE => kernel_rfl)
    (case eC => k_is)
    (case xC => k_exc)
    (case kC => k_is)
    (case tC => k_is)
    (case sC => k_is)
    (case h1 => k_is)
    (case h2 => k_is)
    (case h3 => k_is)
    (case h4 => k_is)
    (case h5 => k_is)
    (case h6 => k_is)
    (case h7 => k_is)
    (case h8 => k_is)
    (case e1 => k_is)
    (case e2 => k_is)
    (case e3 => k_is)
    (case e4 => k_is)
    (case m1 => kernel_rfl)
    (case m2 => kernel_rfl)
    (case m3 => kernel_rfl)
    (case m4 => kernel_rfl)
