import PyProof.Rows.All
import HandS.ForMost
import HandS.AnyAll
import HandS.IsInst
import HandS.TupAny
import HandS.Conv
import HandS.Style
import HandS.Rev
import HandS.Deep
import HandS.Wide
import HandS.WideBits
import HandS.Flow
import HandS.Codes
import HandS.Zip
import KE.SortData
import KE.DataMinMax
import KE.DataIsa
import KE.GoesMore
import KE.DataFind
import KE.KIndexOf
import HandS.SetFor
import HandS.StrMore
import HandS.Strs
import HandS.MapJoin
import HandS.GenBody
import PyProof.SumAny
import HandS.TupSets
import HandS.Gcd
import HandS.EndOwn
import HandS.ForExc
import HandS.ExcIs
import HandS.RaiseMore
import PySem.Challenge.RW_backtohand_k53_networks_and_plans
set_option Elab.async false
set_option linter.all false
set_option maxRecDepth 100000
set_option maxHeartbeats 4000000
/-! new tuples, their objects known (no dict of their own) -/
namespace O
open PySem PySem.Spec PyProof.Rows L2
section
variable {X : Cx} {es : List Expr} {t : TA} {pos : Pos}
/-- a new tuple at p -/
def NewT (H : Hp) (Q : VK) (xs : List V) : Prop := ∀ p o, o.dict = none → H p = none → Q (.ref p) (upd H p (.frz o (.tup xs)))
theorem laidF {pins : List (Addr × Obj)} {s : Shared} {σ : L2.St} {H : Hp} {Q : VK} {xs : List V} {its : List Value} (I : Inv X pins σ H s) (hz : xs.length ≤ sizeLine) (r : Vals xs its) (q : NewT H Q xs) :
    EP X pins σ Q (.ref s.heap.objs.size) { s with heap := s.heap.push { cls := .type "tuple", data := .seq its.toArray } } := by
  refine ⟨.ref s.heap.objs.size, upd H s.heap.objs.size (.frz { cls := .type "tuple", data := .seq its.toArray } (.tup xs)), I.laid (t' := s.toks) (fun b u e => Heap.get?_push_of_some _ e) (Nat.le_refl _) ?_, rfl, q _ _ rfl (I.hok.fresh (Nat.le_refl _))⟩
  exact ⟨Heap.get?_push_size _ rfl, hz, its, r, IsTup.new _ _⟩
def tTupF (t : TA) : TE := fun σ H Q => t σ H fun xs H1 => xs.length ≤ sizeLine ∧ NewT H1 Q xs
theorem pe_tupF {x1} (h : PA X es t) : PE X (.Tuple es x1 pos) (tTupF t) := by
  refine ⟨fun pins s σ H Q I hq => ?_⟩
  refine wpAny_Tuple_spliced (thn (h.run pos pins s σ H _ I hq) fun us s1 ⟨xs, H1, I1, r, z, q⟩ => ⟨by rw [← r.length]; exact z, ?_⟩)
  exact laidF I1 z r q
theorem call_tuple_ofF : CallR X (.type "tuple") (fun xs H Q => ∃ p ys, xs = [.ref p] ∧ SqL X.K H p ys ∧ NewT H Q ys) := by
  intro pins s σ H xs us Q I r h
  obtain ⟨p, ys, rfl, hq, q⟩ := h
  obtain ⟨u, rfl, rx⟩ := vals1 r
  cases rx
  obtain ⟨its, r', pl, hz⟩ := I.list hq
  have hlen := r'.length
  refine call_tuple_list pl.isList (fun h' kp => ?_) (by simp only [List.size_toArray] <;> omega)
  exact laidF (I.kept (t' := s.toks) kp) hz r' q
def rCatF (K : PySem.W.Frag) : R2 := fun x y H Q => ∃ a b xs ys, x = .ref a ∧ y = .ref b ∧ SqT K H a xs ∧ SqT K H b ys ∧ xs.length + ys.length ≤ sizeLine ∧
  (xs = [] → Q (.ref b) H) ∧ (xs ≠ [] → ys = [] → Q (.ref a) H) ∧ (xs ≠ [] → ys ≠ [] → NewT H Q (xs ++ ys))
theorem op_catF : OpR X (binaryOp .Add) (rCatF X.K) := by
  intro pins s σ H x y v u Q I rx ry h
  obtain ⟨a, b, xs, ys, rfl, rfl, ha, hb, hz, q0, q1, q2⟩ := h
  cases rx
  cases ry
  obtain ⟨its, r1, p1, _⟩ := I.tuple ha
  obtain ⟨its2, r2, p2, _⟩ := I.tuple hb
  by_cases hx : xs = []
  · subst hx
    cases r1
    exact cat_tup0 p1 p2 ⟨.ref b, H, I, rfl, q0 rfl⟩
  · refine HT.cat_tup p1 p2 (fun z => hx (r1.nil_iff.mp z)) (fun z => ⟨.ref a, H, I, rfl, q1 hx (r2.nil_iff.mp z)⟩) (fun z => ?_) (by rw [← r1.length, ← r2.length]; exact hz)
    exact laidF I (by rw [List.length_append]; exact hz) (r1.append r2) (q2 hx fun w => z (r2.nil_iff.mpr w))
def rSlF (K : PySem.W.Frag) : V → Option Int → Option Int → Hp → VK → Prop := fun x lo hi H Q => ∃ a xs, x = .ref a ∧ SqT K H a xs ∧
  (HT.sIx xs.length 0 lo = 0 ∧ HT.sIx xs.length xs.length hi = xs.length → Q (.ref a) H) ∧ (¬ (HT.sIx xs.length 0 lo = 0 ∧ HT.sIx xs.length xs.length hi = xs.length) → NewT H Q (cutV xs lo hi))
theorem sl_tupF : SlR X (rSlF X.K) := by
  intro pins s σ H x v vl vu lo hi sl Q I rx hs pl pu h
  obtain ⟨a, xs, rfl, hx, q1, q2⟩ := h
  cases rx
  obtain ⟨its, r, ht, hz⟩ := I.tuple hx
  have hlen : its.toArray.size = xs.length := by rw [List.size_toArray]; exact r.length.symm
  refine ⟨"tuple", _, PyProof.Rows.slot_tuple_getitem.lookup, ht.typeIs, ?_⟩
  by_cases hw : HT.sIx xs.length 0 lo = 0 ∧ HT.sIx xs.length xs.length hi = xs.length
  · exact getItem_tuple_whole ht hs pl pu (by rw [hlen]; exact hw) ⟨.ref a, H, I, rfl, q1 hw⟩
  · refine HT.getItem_tuple_cut ht hs pl pu (by rw [hlen]; exact hw) ?_ (by rw [hlen]; exact hz)
    rw [hlen]
    exact laidF I (Nat.le_trans (cutV_length xs lo hi) hz) ((r.drop (HT.sIx xs.length 0 lo)).take (HT.sIx xs.length xs.length hi - HT.sIx xs.length 0 lo)) (q2 hw)
end
end O
set_option maxRecDepth 100000
/-! a layer of plain data over the hand layer: what a value stands for, what is shared, what is owned -/
namespace O
open PySem PySem.Spec PyProof.Rows L2

abbrev D := PyData
/-- how a value is held: shared, borrowed (read only), an owned list with items held so -/
inductive Md where
  | sh | bo | bx | dk | fn | ow (m : Md)
  deriving DecidableEq, Repr

/-- what stays the same through a def: the written part, the tables, what is borrowed -/
structure Gh where
  K : PySem.W.Frag
  T : List Addr
  B : Hp

def Sub (G H : Hp) : Prop := ∀ a o, G a = some o → H a = some o
theorem Sub.refl (G : Hp) : Sub G G := fun _ _ h => h
theorem Sub.trans {G H J : Hp} (a : Sub G H) (b : Sub H J) : Sub G J := fun x o h => b x o (a x o h)
theorem Sub.upd {H : Hp} {p : Addr} {o : HO} (h : H p = none) : Sub H (upd H p o) := fun a x e => by rw [upd_ne (ne_of_none e h)]; exact e
def un (G B : Hp) : Hp := fun a => match G a with
  | some o => some o
  | none => B a
theorem Sub.un_l (G B : Hp) : Sub G (un G B) := fun a o e => by unfold un; rw [e]
theorem Sub.un {G G' B : Hp} (h : Sub G G') {H : Hp} (s : Sub G' H) (b : Sub B H) : Sub (un G B) (un G' B) := fun a o e => by
  unfold O.un at e ⊢
  cases q : G a with
  | some u => rw [q] at e; cases e; rw [h a _ q]
  | none =>
    rw [q] at e
    cases r : G' a with
    | none => exact e
    | some u =>
      have h1 := s a u r
      rw [b a o e] at h1
      exact h1.symm
theorem Sub.of_un {G B H : Hp} (s : Sub G H) (b : Sub B H) : Sub (O.un G B) H := fun a o e => by
  unfold O.un at e
  cases q : G a with
  | some u => rw [q] at e; cases e; exact s a _ q
  | none => rw [q] at e; exact b a o e

theorem Rd.sub {G H : Hp} (s : Sub G H) {a : Addr} {u : HO} (r : Rd G a u) : Rd H a u := by
  rcases r with r | ⟨o, r⟩
  · exact .inl (s a _ r)
  · exact .inr ⟨o, s a _ r⟩
theorem SqL.sub {K : PySem.W.Frag} {G H : Hp} (s : Sub G H) {a : Addr} {xs : List V} (r : SqL K G a xs) : SqL K H a xs := by
  rcases r with r | r
  · exact .inl (Rd.sub s r)
  · exact .inr r
theorem SqT.sub {K : PySem.W.Frag} {G H : Hp} (s : Sub G H) {a : Addr} {xs : List V} (r : SqT K G a xs) : SqT K H a xs := by
  rcases r with r | r
  · exact .inl (Rd.sub s r)
  · exact .inr r
/-! data that stands for all: lists are tracked (neither the script nor of the written part) -/
def strD : D → Bool
  | .str _ => true
  | _ => false
/-- texts alone, one at least -/
def strsD (ds : List D) : Bool := !ds.isEmpty && ds.all strD
def TupX (K : PySem.W.Frag) (G : Hp) (a : Addr) : Prop := (∃ o, K.lookup a = some o ∧ o.cls = .type "tuple" ∧ o.dict = none) ∨ ∃ o u, G a = some (.frz o u) ∧ o.dict = none
mutual
inductive Dq (K : PySem.W.Frag) (G : Hp) : V → D → Prop
  | non : Dq K G .non .none
  | bl (b : Bool) : Dq K G (.bl b) (.bool b)
  | int (i : Int) : Dq K G (.int i) (.int i)
  | str (x : Str) : Dq K G (.str x) (.str x)
  | lst {a : Addr} {xs : List V} {ds : List D} : G a = some (.lst xs) → DqAll K G xs ds → Dq K G (.ref a) (.list ds)
  | tup {a : Addr} {xs : List V} {ds : List D} : SqT K G a xs → DqAll K G xs ds → (strsD ds = true → TupX K G a) → Dq K G (.ref a) (.tuple ds)
inductive DqAll (K : PySem.W.Frag) (G : Hp) : List V → List D → Prop
  | nil : DqAll K G [] []
  | cons {v : V} {vs : List V} {d : D} {ds : List D} : Dq K G v d → DqAll K G vs ds → DqAll K G (v :: vs) (d :: ds)
end
/-- a tuple without a dict of its own -/
theorem TupX.sub {K : PySem.W.Frag} {G H : Hp} (s : Sub G H) {a : Addr} (h : TupX K G a) : TupX K H a := by
  rcases h with h | ⟨o, u, e, q⟩
  · exact .inl h
  · exact .inr ⟨o, u, s _ _ e, q⟩
mutual
theorem Dq.sub {K : PySem.W.Frag} {G H : Hp} (s : Sub G H) : ∀ (d : D) (v : V), Dq K G v d → Dq K H v d
  | .none, _, h => by cases h; exact .non
  | .bool b, _, h => by cases h; exact .bl b
  | .int i, _, h => by cases h; exact .int i
  | .str x, _, h => by cases h; exact .str x
  | .list ds, _, h => by cases h with | lst a b => exact .lst (s _ _ a) (Dq.subAll s ds _ b)
  | .tuple ds, _, h => by cases h with | tup a b f => exact .tup (SqT.sub s a) (Dq.subAll s ds _ b) fun z => (f z).sub s
  | .dict _, _, h => by cases h
theorem Dq.subAll {K : PySem.W.Frag} {G H : Hp} (s : Sub G H) : ∀ (ds : List D) (vs : List V), DqAll K G vs ds → DqAll K H vs ds
  | [], _, h => by cases h; exact .nil
  | d :: ds, _, h => by cases h with | cons a b => exact .cons (Dq.sub s d _ a) (Dq.subAll s ds _ b)
end
mutual
theorem Dq.dp {K : PySem.W.Frag} {G : Hp} : ∀ (d : D) (v : V), Dq K G v d → Dp K G v d
  | .none, _, h => by cases h; exact .non
  | .bool b, _, h => by cases h; exact .bl b
  | .int i, _, h => by cases h; exact .int i
  | .str x, _, h => by cases h; exact .str x
  | .list ds, _, h => by cases h with | lst a b => exact .lst (.inl (.inl a)) (Dq.dpAll ds _ b)
  | .tuple ds, _, h => by cases h with | tup a b => exact .tup a (Dq.dpAll ds _ b)
  | .dict _, _, h => by cases h
theorem Dq.dpAll {K : PySem.W.Frag} {G : Hp} : ∀ (ds : List D) (vs : List V), DqAll K G vs ds → DpAll K G vs ds
  | [], _, h => by cases h; exact .nil
  | d :: ds, _, h => by cases h with | cons a b => exact .cons (Dq.dp d _ a) (Dq.dpAll ds _ b)
end
theorem DqAll.length {K : PySem.W.Frag} {G : Hp} : ∀ {vs : List V} {ds : List D}, DqAll K G vs ds → vs.length = ds.length
  | _, _, .nil => rfl
  | _, _, .cons _ t => by rw [List.length_cons, List.length_cons, DqAll.length t]
theorem DqAll.get {K : PySem.W.Frag} {G : Hp} : ∀ {vs : List V} {ds : List D} {i : Nat} {d : D}, DqAll K G vs ds → ds[i]? = some d → ∃ v, vs[i]? = some v ∧ Dq K G v d
  | _, _, _, _, .nil, e => by simp at e
  | _, _, 0, _, .cons h _, e => by simp at e; subst e; exact ⟨_, rfl, h⟩
  | _, _, i + 1, _, .cons _ t, e => by
    obtain ⟨v, h1, h2⟩ := DqAll.get (i := i) t (by simpa using e)
    exact ⟨v, by simpa using h1, h2⟩
theorem DqAll.get' {K : PySem.W.Frag} {G : Hp} : ∀ {vs : List V} {ds : List D} {i : Nat} {v : V}, DqAll K G vs ds → vs[i]? = some v → ∃ d, ds[i]? = some d ∧ Dq K G v d
  | _, _, _, _, .nil, e => by simp at e
  | _, _, 0, _, .cons h _, e => by simp at e; subst e; exact ⟨_, rfl, h⟩
  | _, _, i + 1, _, .cons _ t, e => by
    obtain ⟨v, h1, h2⟩ := DqAll.get' (i := i) t (by simpa using e)
    exact ⟨v, by simpa using h1, h2⟩
theorem DqAll.app {K : PySem.W.Frag} {G : Hp} : ∀ {vs us : List V} {ds es : List D}, DqAll K G vs ds → DqAll K G us es → DqAll K G (vs ++ us) (ds ++ es)
  | _, _, _, _, .nil, s => s
  | _, _, _, _, .cons h t, s => .cons h (DqAll.app t s)
theorem DqAll.take {K : PySem.W.Frag} {G : Hp} : ∀ {vs : List V} {ds : List D} (n : Nat), DqAll K G vs ds → DqAll K G (vs.take n) (ds.take n)
  | _, _, 0, _ => by simp; exact .nil
  | _, _, _ + 1, .nil => .nil
  | _, _, n + 1, .cons h t => .cons h (DqAll.take n t)
theorem DqAll.drop {K : PySem.W.Frag} {G : Hp} : ∀ {vs : List V} {ds : List D} (n : Nat), DqAll K G vs ds → DqAll K G (vs.drop n) (ds.drop n)
  | _, _, 0, h => h
  | _, _, _ + 1, .nil => .nil
  | _, _, n + 1, .cons _ t => DqAll.drop n t
theorem DqAll.set {K : PySem.W.Frag} {G : Hp} {v : V} {d : D} (r : Dq K G v d) : ∀ {vs : List V} {ds : List D} (i : Nat), DqAll K G vs ds → DqAll K G (vs.set i v) (ds.set i d)
  | _, _, _, .nil => .nil
  | _, _, 0, .cons _ t => .cons r t
  | _, _, i + 1, .cons h t => .cons h (DqAll.set r i t)
theorem DqAll.rev {K : PySem.W.Frag} {G : Hp} : ∀ {vs : List V} {ds : List D}, DqAll K G vs ds → DqAll K G vs.reverse ds.reverse
  | _, _, .nil => .nil
  | _, _, .cons h t => by rw [List.reverse_cons, List.reverse_cons]; exact DqAll.app (DqAll.rev t) (.cons h .nil)
theorem DqAll.rep {K : PySem.W.Frag} {G : Hp} {v : V} {d : D} (h : Dq K G v d) : ∀ n : Nat, DqAll K G (List.replicate n v) (List.replicate n d)
  | 0 => .nil
  | n + 1 => .cons h (DqAll.rep h n)

/-! ### what is held, with its footprint -/
/-- a whole number or a text -/
def encK : Key → D
  | .inl i => .int i
  | .inr x => .str x
inductive Fa3 {α β γ : Type} (P : α → β → γ → Prop) : List α → List β → List γ → Prop
  | nil : Fa3 P [] [] []
  | cons {a b c as bs cs} : P a b c → Fa3 P as bs cs → Fa3 P (a :: as) (b :: bs) (c :: cs)
theorem Fa3.imp {α β γ : Type} {P Q : α → β → γ → Prop} (h : ∀ a b c, P a b c → Q a b c) : ∀ {as bs cs}, Fa3 P as bs cs → Fa3 Q as bs cs
  | _, _, _, .nil => .nil
  | _, _, _, .cons a t => .cons (h _ _ _ a) (Fa3.imp h t)

/-- no dict, no def within -/
def Md.plain : Md → Bool
  | .dk => false
  | .fn => false
  | .ow m => m.plain
  | _ => true
/-- a dict's rows: keys are whole numbers or texts, values are for all -/
inductive KvAll (K : PySem.W.Frag) (G : Hp) : List (Key × V) → List (D × D) → Prop
  | nil : KvAll K G [] []
  | cons {k : Key} {v : V} {d : D} {kvs : List (Key × V)} {ds : List (D × D)} : Dq K G v d → KvAll K G kvs ds → KvAll K G ((k, v) :: kvs) ((encK k, d) :: ds)
theorem KvAll.sub {K : PySem.W.Frag} {G H : Hp} (s : Sub G H) : ∀ {kvs : List (Key × V)} {ds : List (D × D)}, KvAll K G kvs ds → KvAll K H kvs ds
  | _, _, .nil => .nil
  | _, _, .cons a t => .cons (Dq.sub s _ _ a) (KvAll.sub s t)
def Rep (c : Gh) (G H : Hp) : Md → V → D → List Addr → Prop
  | .sh, v, d, F => F = [] ∧ Dq c.K G v d
  | .bo, v, d, F => F = [] ∧ Dq c.K (un G c.B) v d
  | .bx, v, d, F => ∃ a b vs ws ds es, v = .ref a ∧ d = .list (.list es :: ds) ∧ H a = some (.lst (.ref b :: vs)) ∧ H b = some (.lst ws) ∧ DqAll c.K G vs ds ∧ DqAll c.K G ws es ∧ F = [a, b]
  | .dk, v, d, F => ∃ a kvs ds, v = .ref a ∧ d = .dict ds ∧ H a = some (.dK kvs) ∧ KvAll c.K G kvs ds ∧ F = [a]
  | .fn, v, d, F => F = [] ∧ ∃ x a, v = .ref a ∧ d = .dict [(.str x, .none)] ∧ PySem.W.nsIn c.K mainGlobals x = some (some (.ref a))
  | .ow m, v, d, F => m.plain = true ∧ ∃ a vs ds Fs, v = .ref a ∧ d = .list ds ∧ H a = some (.lst vs) ∧ Fa3 (Rep c G H m) vs ds Fs ∧ F = a :: Fs.flatten

abbrev T3 := Md × V × D
/-- the footprints of a row of held things -/
inductive Reps (c : Gh) (G H : Hp) : List T3 → List Addr → Prop
  | nil : Reps c G H [] []
  | cons {m v d L F E} : Rep c G H m v d F → Reps c G H L E → Reps c G H ((m, v, d) :: L) (F ++ E)

def Pu : HO → Prop
  | .lst _ => True
  | .tup _ => True
  | .frz _ _ => True
  | _ => False
structure Rel (c : Gh) (G H : Hp) (L : List T3) : Prop where
  sub : Sub G H
  subB : Sub c.B H
  pu : ∀ a o, un G c.B a = some o → Pu o
  tab : ∀ P ∈ c.T, GxR.TabG H P
  own : ∃ F, Reps c G H L F ∧ F.Nodup ∧ ∀ a ∈ F, G a = none ∧ c.B a = none

theorem Reps.perm {c : Gh} {G H : Hp} {L L' : List T3} (p : L.Perm L') : ∀ {F}, Reps c G H L F → ∃ F', Reps c G H L' F' ∧ F.Perm F' := by
  induction p with
  | nil => intro F h; exact ⟨F, h, .refl _⟩
  | cons x _ ih =>
    intro F h
    cases h with
    | cons a t =>
      obtain ⟨E', h1, h2⟩ := ih t
      exact ⟨_, .cons a h1, h2.append_left _⟩
  | swap x y l =>
    intro F h
    cases h with
    | cons a t =>
      cases t with
      | cons b t =>
        refine ⟨_, .cons b (.cons a t), ?_⟩
        rw [← List.append_assoc, ← List.append_assoc]
        exact List.perm_append_comm.append_right _
  | trans _ _ ih1 ih2 =>
    intro F h
    obtain ⟨F1, a1, p1⟩ := ih1 h
    obtain ⟨F2, a2, p2⟩ := ih2 a1
    exact ⟨F2, a2, p1.trans p2⟩
theorem Rel.perm {c : Gh} {G H : Hp} {L L' : List T3} (r : Rel c G H L) (p : L.Perm L') : Rel c G H L' := by
  obtain ⟨F, h, n, q⟩ := r.own
  obtain ⟨F', h', p'⟩ := Reps.perm p h
  exact ⟨r.sub, r.subB, r.pu, r.tab, F', h', p'.nodup n, fun a ha => q a (p'.mem_iff.mpr ha)⟩
theorem Rel.drop {c : Gh} {G H : Hp} {t : T3} {L : List T3} (r : Rel c G H (t :: L)) : Rel c G H L := by
  obtain ⟨F, h, n, q⟩ := r.own
  cases h with
  | cons a t => exact ⟨r.sub, r.subB, r.pu, r.tab, _, t, (List.nodup_append.mp n).2.1, fun a ha => q a (List.mem_append_right _ ha)⟩
theorem Rel.sh_of {c : Gh} {G H : Hp} {v : V} {d : D} {L : List T3} (r : Rel c G H ((.sh, v, d) :: L)) : Dq c.K G v d := by
  obtain ⟨F, h, n, q⟩ := r.own
  cases h with
  | cons a t => exact a.2
theorem Rel.bo_of {c : Gh} {G H : Hp} {v : V} {d : D} {L : List T3} (r : Rel c G H ((.bo, v, d) :: L)) : Dq c.K (un G c.B) v d := by
  obtain ⟨F, h, n, q⟩ := r.own
  cases h with
  | cons a t => exact a.2
theorem Rel.put_bo {c : Gh} {G H : Hp} {v : V} {d : D} {L : List T3} (r : Rel c G H L) (h : Dq c.K (un G c.B) v d) : Rel c G H ((.bo, v, d) :: L) := by
  obtain ⟨F, h', n, q⟩ := r.own
  exact ⟨r.sub, r.subB, r.pu, r.tab, [] ++ F, .cons ⟨rfl, h⟩ h', n, q⟩
theorem Rel.put_sh {c : Gh} {G H : Hp} {v : V} {d : D} {L : List T3} (r : Rel c G H L) (h : Dq c.K G v d) : Rel c G H ((.sh, v, d) :: L) := by
  obtain ⟨F, h', n, q⟩ := r.own
  exact ⟨r.sub, r.subB, r.pu, r.tab, [] ++ F, .cons ⟨rfl, h⟩ h', n, q⟩

/-- G grows by what is in no footprint -/
theorem Rep.grow {c : Gh} {G G' H : Hp} (s : Sub G G') (s2 : Sub G' H) (b : Sub c.B H) : ∀ {m : Md} {v : V} {d : D} {F : List Addr}, Rep c G H m v d F → Rep c G' H m v d F := by
  intro m
  induction m with
  | sh => intro v d F h; exact ⟨h.1, Dq.sub s _ _ h.2⟩
  | bo => intro v d F h; exact ⟨h.1, Dq.sub (s.un s2 b) _ _ h.2⟩
  | bx =>
    intro v d F h
    obtain ⟨p, q, vs, ws, ds, es, h1, h2, h3, h4, h5, h6, h7⟩ := h
    exact ⟨p, q, vs, ws, ds, es, h1, h2, h3, h4, Dq.subAll s _ _ h5, Dq.subAll s _ _ h6, h7⟩
  | dk =>
    intro v d F h
    obtain ⟨a, kvs, ds, h1, h2, h3, h4, h5⟩ := h
    exact ⟨a, kvs, ds, h1, h2, h3, h4.sub s, h5⟩
  | fn => intro v d F h; exact h
  | ow m ih =>
    intro v d F h
    obtain ⟨hp, a, vs, ds, Fs, h1, h2, h3, h4, h5⟩ := h
    exact ⟨hp, a, vs, ds, Fs, h1, h2, h3, h4.imp fun _ _ _ z => ih z, h5⟩
theorem Reps.grow {c : Gh} {G G' H : Hp} (s : Sub G G') (s2 : Sub G' H) (b : Sub c.B H) : ∀ {L : List T3} {F : List Addr}, Reps c G H L F → Reps c G' H L F
  | _, _, .nil => .nil
  | _, _, .cons a t => .cons (Rep.grow s s2 b a) (Reps.grow s s2 b t)
theorem Fa3.keep {c : Gh} {G H H' : Hp} {m : Md} (ih : ∀ {v : V} {d : D} {F : List Addr}, (∀ a ∈ F, H' a = H a) → Rep c G H m v d F → Rep c G H' m v d F) : ∀ {vs : List V} {ds : List D} {Fs : List (List Addr)}, (∀ a ∈ Fs.flatten, H' a = H a) → Fa3 (Rep c G H m) vs ds Fs → Fa3 (Rep c G H' m) vs ds Fs
  | _, _, _, _, .nil => .nil
  | _, _, _, k, .cons a t => .cons (ih (fun b hb => k b (by rw [List.flatten_cons]; exact List.mem_append_left _ hb)) a) (Fa3.keep ih (fun b hb => k b (by rw [List.flatten_cons]; exact List.mem_append_right _ hb)) t)
theorem Rep.keep {c : Gh} {G H H' : Hp} : ∀ {m : Md} {v : V} {d : D} {F : List Addr}, (∀ a ∈ F, H' a = H a) → Rep c G H m v d F → Rep c G H' m v d F := by
  intro m
  induction m with
  | sh => intro v d F _ h; exact h
  | bo => intro v d F _ h; exact h
  | bx =>
    intro v d F k h
    obtain ⟨p, q, vs, ws, ds, es, h1, h2, h3, h4, h5, h6, rfl⟩ := h
    exact ⟨p, q, vs, ws, ds, es, h1, h2, by rw [k p List.mem_cons_self]; exact h3, by rw [k q (List.mem_cons_of_mem _ List.mem_cons_self)]; exact h4, h5, h6, rfl⟩
  | dk =>
    intro v d F k h
    obtain ⟨a, kvs, ds, h1, h2, h3, h4, rfl⟩ := h
    exact ⟨a, kvs, ds, h1, h2, by rw [k a List.mem_cons_self]; exact h3, h4, rfl⟩
  | fn => intro v d F _ h; exact h
  | ow m ih =>
    intro v d F k h
    obtain ⟨hp, a, vs, ds, Fs, h1, h2, h3, h4, rfl⟩ := h
    exact ⟨hp, a, vs, ds, Fs, h1, h2, by rw [k a List.mem_cons_self]; exact h3, Fa3.keep ih (fun b hb => k b (List.mem_cons_of_mem _ hb)) h4, rfl⟩
theorem Reps.keep {c : Gh} {G H H' : Hp} : ∀ {L : List T3} {F : List Addr}, (∀ a ∈ F, H' a = H a) → Reps c G H L F → Reps c G H' L F
  | _, _, _, .nil => .nil
  | _, _, k, .cons a t => .cons (Rep.keep (fun b hb => k b (List.mem_append_left _ hb)) a) (Reps.keep (fun b hb => k b (List.mem_append_right _ hb)) t)
/-- what may stand in a footprint -/
def Held (o : HO) : Prop := (∃ xs, o = .lst xs) ∨ ∃ kvs, o = .dK kvs
theorem Fa3.some {c : Gh} {G H : Hp} {m : Md} (ih : ∀ {v : V} {d : D} {F : List Addr}, Rep c G H m v d F → ∀ a ∈ F, ∃ o, H a = some o ∧ Held o) : ∀ {vs : List V} {ds : List D} {Fs : List (List Addr)}, Fa3 (Rep c G H m) vs ds Fs → ∀ a ∈ Fs.flatten, ∃ o, H a = some o ∧ Held o
  | _, _, _, .nil, a, h => by simp at h
  | _, _, _, .cons p t, a, h => by
    rw [List.flatten_cons] at h
    rcases List.mem_append.mp h with h | h
    · exact ih p a h
    · exact Fa3.some ih t a h
/-- what is in a footprint is a list or a dict -/
theorem Rep.some {c : Gh} {G H : Hp} : ∀ {m : Md} {v : V} {d : D} {F : List Addr}, Rep c G H m v d F → ∀ a ∈ F, ∃ o, H a = some o ∧ Held o := by
  intro m
  induction m with
  | sh => intro v d F h a ha; rw [h.1] at ha; simp at ha
  | bo => intro v d F h a ha; rw [h.1] at ha; simp at ha
  | bx =>
    intro v d F h a ha
    obtain ⟨p, q, vs, ws, ds, es, h1, h2, h3, h4, h5, h6, rfl⟩ := h
    rcases List.mem_cons.mp ha with rfl | ha
    · exact ⟨_, h3, .inl ⟨_, rfl⟩⟩
    · rw [List.mem_singleton.mp ha]; exact ⟨_, h4, .inl ⟨_, rfl⟩⟩
  | dk =>
    intro v d F h a ha
    obtain ⟨b, kvs, ds, h1, h2, h3, h4, rfl⟩ := h
    rw [List.mem_singleton.mp ha]; exact ⟨_, h3, .inr ⟨_, rfl⟩⟩
  | fn => intro v d F h a ha; rw [h.1] at ha; simp at ha
  | ow m ih =>
    intro v d F h a ha
    obtain ⟨_, b, vs, ds, Fs, h1, h2, h3, h4, rfl⟩ := h
    rcases List.mem_cons.mp ha with rfl | ha
    · exact ⟨_, h3, .inl ⟨_, rfl⟩⟩
    · exact Fa3.some ih h4 a ha
theorem Reps.some {c : Gh} {G H : Hp} : ∀ {L : List T3} {F : List Addr}, Reps c G H L F → ∀ a ∈ F, ∃ o, H a = some o ∧ Held o
  | _, _, .nil, a, h => by simp at h
  | _, _, .cons p t, a, h => by
    rcases List.mem_append.mp h with h | h
    · exact Rep.some p a h
    · exact Reps.some t a h

/-- a new object, not yet held -/
theorem Rel.laid {c : Gh} {G H : Hp} {L : List T3} {p : Addr} {o : HO} (r : Rel c G H L) (hp : H p = none) : Rel c G (upd H p o) L := by
  obtain ⟨F, h, n, q⟩ := r.own
  have s := Sub.upd (o := o) hp
  refine ⟨r.sub.trans s, r.subB.trans s, r.pu, fun P hP => ?_, F, Reps.keep (fun a ha => ?_) h, n, q⟩
  · obtain ⟨ps, e, t⟩ := r.tab P hP
    exact ⟨ps, s P _ e, t⟩
  · obtain ⟨xs, e, _⟩ := h.some a ha
    rw [upd_ne (ne_of_none e hp)]
theorem Rel.fresh {c : Gh} {G H : Hp} {L : List T3} {p : Addr} (r : Rel c G H L) (hp : H p = none) : G p = none ∧ c.B p = none := by
  constructor
  · cases e : G p with
    | none => rfl
    | some o => rw [r.sub p o e] at hp; cases hp
  · cases e : c.B p with
    | none => rfl
    | some o => rw [r.subB p o e] at hp; cases hp
theorem un_upd {G B : Hp} {p : Addr} {o : HO} : un (upd G p o) B = upd (un G B) p o := by
  funext a
  unfold un upd
  by_cases e : a = p
  · subst e; simp
  · simp [e]
/-- what stands in H is taken to what stays -/
theorem Rel.grow {c : Gh} {G H : Hp} {L : List T3} {p : Addr} {o : HO} (r : Rel c G H L) (hG : G p = none) (hH : H p = some o) (ho : Pu o) (hF : ∀ F, Reps c G H L F → p ∉ F) : Sub G (upd G p o) ∧ Rel c (upd G p o) H L := by
  obtain ⟨F, h, n, q⟩ := r.own
  have s0 : Sub G (upd G p o) := Sub.upd hG
  have s : Sub (upd G p o) H := fun a x e => by
    by_cases ha : a = p
    · subst ha; rw [upd_same] at e; cases e; exact hH
    · rw [upd_ne ha] at e; exact r.sub a x e
  refine ⟨s0, s, r.subB, fun a x e => ?_, r.tab, F, Reps.grow s0 s r.subB h, n, fun a ha => ?_⟩
  · rw [un_upd] at e
    by_cases hap : a = p
    · subst hap; rw [upd_same] at e; cases e; exact ho
    · rw [upd_ne hap] at e; exact r.pu a x e
  · obtain ⟨h2, h3⟩ := q a ha
    exact ⟨by rw [upd_ne (fun e => hF F h (by rw [← e]; exact ha))]; exact h2, h3⟩
/-- .. a new tuple of shared things -/
theorem Rel.new_tup {c : Gh} {G H : Hp} {L : List T3} {p : Addr} {vs : List V} {ds : List D} (r : Rel c G H L) (hp : H p = none) (h : DqAll c.K G vs ds) (hs : strsD ds = false) :
    Sub G (upd G p (.tup vs)) ∧ Rel c (upd G p (.tup vs)) (upd H p (.tup vs)) ((.sh, .ref p, .tuple ds) :: L) := by
  obtain ⟨s, r2⟩ := (r.laid (o := .tup vs) hp).grow (p := p) (o := .tup vs) (r.fresh hp).1 upd_same trivial fun F h1 hm => by
    obtain ⟨xs, z, hx⟩ := h1.some p hm
    rw [upd_same] at z
    cases z
    rcases hx with ⟨_, hx⟩ | ⟨_, hx⟩ <;> cases hx
  exact ⟨s, r2.put_sh (.tup (.inl (.inl upd_same)) (Dq.subAll s _ _ h) fun z => by rw [hs] at z; cases z)⟩
theorem Rel.new_tupF {c : Gh} {G H : Hp} {L : List T3} {p : Addr} {o : Obj} {vs : List V} {ds : List D} (r : Rel c G H L) (ho : o.dict = none) (hp : H p = none) (h : DqAll c.K G vs ds) :
    Sub G (upd G p (.frz o (.tup vs))) ∧ Rel c (upd G p (.frz o (.tup vs))) (upd H p (.frz o (.tup vs))) ((.sh, .ref p, .tuple ds) :: L) := by
  obtain ⟨s, r2⟩ := (r.laid (o := .frz o (.tup vs)) hp).grow (p := p) (o := .frz o (.tup vs)) (r.fresh hp).1 upd_same trivial fun F h1 hm => by
    obtain ⟨xs, z, hx⟩ := h1.some p hm
    rw [upd_same] at z
    cases z
    rcases hx with ⟨_, hx⟩ | ⟨_, hx⟩ <;> cases hx
  exact ⟨s, r2.put_sh (.tup (.inl (.inr ⟨o, upd_same⟩)) (Dq.subAll s _ _ h) fun _ => .inr ⟨o, _, upd_same, ho⟩)⟩
theorem fa3_sh {c : Gh} {G H : Hp} : ∀ {vs : List V} {ds : List D}, DqAll c.K G vs ds → Fa3 (Rep c G H .sh) vs ds (List.replicate ds.length [])
  | _, _, .nil => .nil
  | _, _, .cons h t => .cons ⟨rfl, h⟩ (fa3_sh t)
theorem flat_nil {α : Type} : ∀ n : Nat, (List.replicate n ([] : List α)).flatten = []
  | 0 => rfl
  | n + 1 => by rw [List.replicate_succ, List.flatten_cons, flat_nil n]; rfl
theorem of_fa3_sh {c : Gh} {G H : Hp} : ∀ {vs : List V} {ds : List D} {Fs : List (List Addr)}, Fa3 (Rep c G H .sh) vs ds Fs → DqAll c.K G vs ds ∧ Fs.flatten = []
  | _, _, _, .nil => ⟨.nil, rfl⟩
  | _, _, _, .cons h t => by
    obtain ⟨h1, h2⟩ := of_fa3_sh t
    refine ⟨.cons h.2 h1, ?_⟩
    rw [List.flatten_cons, h.1, h2]; rfl
theorem rep_ow {c : Gh} {G H : Hp} {a : Addr} {vs : List V} {ds : List D} (e : H a = some (.lst vs)) (h : DqAll c.K G vs ds) : Rep c G H (.ow .sh) (.ref a) (.list ds) [a] :=
  ⟨rfl, a, vs, ds, _, rfl, rfl, e, fa3_sh h, by rw [flat_nil]⟩
theorem of_rep_ow {c : Gh} {G H : Hp} {v : V} {d : D} {F : List Addr} (h : Rep c G H (.ow .sh) v d F) : ∃ a vs ds, v = .ref a ∧ d = .list ds ∧ H a = some (.lst vs) ∧ DqAll c.K G vs ds ∧ F = [a] := by
  obtain ⟨_, a, vs, ds, Fs, h1, h2, h3, h4, h5⟩ := h
  obtain ⟨h6, h7⟩ := of_fa3_sh h4
  exact ⟨a, vs, ds, h1, h2, h3, h6, by rw [h5, h7]⟩
/-- .. a new list of shared things, owned -/
theorem Rel.new_lst {c : Gh} {G H : Hp} {L : List T3} {p : Addr} {vs : List V} {ds : List D} (r : Rel c G H L) (hp : H p = none) (h : DqAll c.K G vs ds) : Rel c G (upd H p (.lst vs)) ((.ow .sh, .ref p, .list ds) :: L) := by
  have r1 : Rel c G (upd H p (.lst vs)) L := r.laid hp
  obtain ⟨F, h0, n, q⟩ := r.own
  refine ⟨r1.sub, r1.subB, r1.pu, r1.tab, [p] ++ F, .cons (rep_ow upd_same h) (Reps.keep (fun a ha => ?_) h0), ?_, fun a ha => ?_⟩
  · obtain ⟨xs, e, _⟩ := h0.some a ha
    rw [upd_ne (ne_of_none e hp)]
  · refine List.nodup_cons.mpr ⟨fun hm => ?_, n⟩
    obtain ⟨xs, e, _⟩ := h0.some p hm
    rw [hp] at e; cases e
  · rcases List.mem_cons.mp ha with rfl | ha
    · exact r.fresh hp
    · exact q a ha
/-- an owned list of shared things: what stands there -/
theorem Rel.ow_of {c : Gh} {G H : Hp} {v : V} {d : D} {L : List T3} (r : Rel c G H ((.ow .sh, v, d) :: L)) : ∃ a vs ds, v = .ref a ∧ d = .list ds ∧ H a = some (.lst vs) ∧ DqAll c.K G vs ds := by
  obtain ⟨F, h, n, q⟩ := r.own
  cases h with
  | cons a t =>
    obtain ⟨a, vs, ds, h1, h2, h3, h4, _⟩ := of_rep_ow a
    exact ⟨a, vs, ds, h1, h2, h3, h4⟩
/-- .. it is written -/
theorem Rel.write {c : Gh} {G H : Hp} {a : Addr} {d : D} {L : List T3} {vs : List V} {ds : List D} (r : Rel c G H ((.ow .sh, .ref a, d) :: L)) (h : DqAll c.K G vs ds) : Rel c G (upd H a (.lst vs)) ((.ow .sh, .ref a, .list ds) :: L) := by
  obtain ⟨F, h0, n, q⟩ := r.own
  cases h0 with
  | cons p t =>
    rename_i F1 E
    obtain ⟨b, us, es, h1, h2, h3, h4, h5⟩ := of_rep_ow p
    cases h1
    subst h5
    have na : ∀ x, x ∈ E → x ≠ a := fun x hx e => by
      subst e
      exact (List.nodup_cons.mp n).1 hx
    have q0 := q a List.mem_cons_self
    have kG : ∀ x o, G x = some o → x ≠ a := fun x o e z => by subst z; rw [q0.1] at e; cases e
    have kB : ∀ x o, c.B x = some o → x ≠ a := fun x o e z => by subst z; rw [q0.2] at e; cases e
    refine ⟨fun x o e => by rw [upd_ne (kG x o e)]; exact r.sub x o e, fun x o e => by rw [upd_ne (kB x o e)]; exact r.subB x o e, r.pu, fun P hP => ?_, [a] ++ E, .cons (rep_ow upd_same h) (Reps.keep (fun x hx => by rw [upd_ne (na x hx)]) t), n, q⟩
    obtain ⟨ps, e, z⟩ := r.tab P hP
    exact ⟨ps, by rw [upd_ne (fun w => by subst w; rw [h3] at e; cases e)]; exact e, z⟩
/-- may it be given to all -/
def Md.gives : Md → Bool
  | .sh => true
  | .bo => false
  | .bx => false
  | .dk => false
  | .fn => false
  | .ow m => m.gives
def persist (G H : Hp) (F : List Addr) : Hp := fun a => if a ∈ F then H a else G a
theorem persist_in {G H : Hp} {F : List Addr} {a : Addr} (h : a ∈ F) : persist G H F a = H a := by unfold persist; rw [if_pos h]
theorem persist_out {G H : Hp} {F : List Addr} {a : Addr} (h : a ∉ F) : persist G H F a = G a := by unfold persist; rw [if_neg h]
theorem dp_fa3 {c : Gh} {G G' H : Hp} {m : Md} (ih : ∀ {v : V} {d : D} {F : List Addr}, (∀ a ∈ F, G' a = H a) → Rep c G H m v d F → Dq c.K G' v d) : ∀ {vs : List V} {ds : List D} {Fs : List (List Addr)}, (∀ a ∈ Fs.flatten, G' a = H a) → Fa3 (Rep c G H m) vs ds Fs → DqAll c.K G' vs ds
  | _, _, _, _, .nil => .nil
  | _, _, _, k, .cons a t => .cons (ih (fun b hb => k b (by rw [List.flatten_cons]; exact List.mem_append_left _ hb)) a) (dp_fa3 ih (fun b hb => k b (by rw [List.flatten_cons]; exact List.mem_append_right _ hb)) t)
theorem Rep.shared {c : Gh} {G G' H : Hp} (s : Sub G G') : ∀ {m : Md}, m.gives = true → ∀ {v : V} {d : D} {F : List Addr}, (∀ a ∈ F, G' a = H a) → Rep c G H m v d F → Dq c.K G' v d := by
  intro m
  induction m with
  | sh => intro _ v d F _ h; exact Dq.sub s _ _ h.2
  | bo => intro n; cases n
  | bx => intro n; cases n
  | dk => intro n; cases n
  | fn => intro n; cases n
  | ow m ih =>
    intro n v d F k h
    obtain ⟨_, a, vs, ds, Fs, rfl, rfl, h3, h4, rfl⟩ := h
    exact .lst (by rw [k a List.mem_cons_self]; exact h3) (dp_fa3 (ih n) (fun b hb => k b (List.mem_cons_of_mem _ hb)) h4)
theorem Fa3.lsts {c : Gh} {G H : Hp} {m : Md} (ih : ∀ {v : V} {d : D} {F : List Addr}, Rep c G H m v d F → ∀ a ∈ F, ∃ xs, H a = Option.some (HO.lst xs)) : ∀ {vs : List V} {ds : List D} {Fs : List (List Addr)}, Fa3 (Rep c G H m) vs ds Fs → ∀ a ∈ Fs.flatten, ∃ xs, H a = Option.some (HO.lst xs)
  | _, _, _, .nil, a, h => by simp at h
  | _, _, _, .cons p t, a, h => by
    rw [List.flatten_cons] at h
    rcases List.mem_append.mp h with h | h
    · exact ih p a h
    · exact Fa3.lsts ih t a h
theorem Rep.lsts {c : Gh} {G H : Hp} : ∀ {m : Md}, m.gives = true → ∀ {v : V} {d : D} {F : List Addr}, Rep c G H m v d F → ∀ a ∈ F, ∃ xs, H a = Option.some (HO.lst xs) := by
  intro m
  induction m with
  | sh => intro _ v d F h a ha; rw [h.1] at ha; simp at ha
  | bo => intro n; cases n
  | bx => intro n; cases n
  | dk => intro n; cases n
  | fn => intro n; cases n
  | ow m ih =>
    intro n v d F h a ha
    obtain ⟨_, b, vs, ds, Fs, h1, h2, h3, h4, rfl⟩ := h
    rcases List.mem_cons.mp ha with rfl | ha
    · exact ⟨_, h3⟩
    · exact Fa3.lsts (ih n) h4 a ha
theorem Rel.share {c : Gh} {m : Md} {G H : Hp} {v : V} {d : D} {L : List T3} (hm : m.gives = true) (r : Rel c G H ((m, v, d) :: L)) : ∃ G', Sub G G' ∧ Rel c G' H ((.sh, v, d) :: L) := by
  obtain ⟨F0, h, n, q⟩ := r.own
  cases h with
  | cons p t =>
    rename_i F E
    have nF : ∀ a ∈ F, G a = none := fun a ha => (q a (List.mem_append_left _ ha)).1
    have s : Sub G (persist G H F) := fun a o e => by
      by_cases ha : a ∈ F
      · rw [nF a ha] at e; cases e
      · rw [persist_out ha]; exact e
    have s2 : Sub (persist G H F) H := fun a o e => by
      by_cases ha : a ∈ F
      · rw [persist_in ha] at e; exact e
      · rw [persist_out ha] at e; exact r.sub a o e
    refine ⟨_, s, Rel.put_sh ⟨s2, r.subB, fun a o e => ?_, r.tab, E, Reps.grow s s2 r.subB t, (List.nodup_append.mp n).2.1, fun a ha => ?_⟩ (Rep.shared s hm (fun a ha => persist_in ha) p)⟩
    · by_cases ha : a ∈ F
      · unfold un at e
        rw [persist_in ha] at e
        obtain ⟨xs, z⟩ := p.lsts hm a ha
        rw [z] at e
        cases e
        trivial
      · refine r.pu a o ?_
        unfold un at e ⊢
        rw [persist_out ha] at e
        exact e
    · have hne : a ∉ F := fun hf => (List.nodup_append.mp n).2.2 a hf a ha rfl
      rw [persist_out hne]
      exact q a (List.mem_append_right _ ha)
/-- a borrowed thing that points nowhere is shared -/
def flatD : D → Bool
  | .none => true
  | .bool _ => true
  | .int _ => true
  | .str _ => true
  | _ => false
theorem Dq.flat {K : PySem.W.Frag} {G G' : Hp} : ∀ {d : D} {v : V}, flatD d = true → Dq K G v d → Dq K G' v d
  | .none, _, _, h => by cases h; exact .non
  | .bool b, _, _, h => by cases h; exact .bl b
  | .int i, _, _, h => by cases h; exact .int i
  | .str x, _, _, h => by cases h; exact .str x
  | .list _, _, n, _ => by cases n
  | .tuple _, _, n, _ => by cases n
  | .dict _, _, n, _ => by cases n

/-! ### slots -/
abbrev SV := Option (Md × D)
abbrev SS := List SV
def one : Option V × SV → Option T3
  | (some v, some (m, d)) => some (m, v, d)
  | _ => none
def prs (σ : L2.St) (S : SS) : List T3 := (σ.zip S).filterMap one
structure Cov (σ : L2.St) (S : SS) : Prop where
  len : S.length = σ.length
  at_ : ∀ (i : Nat) (x : Md × D), S[i]? = some (some x) → ∃ v : V, σ[i]? = some (some v)
theorem prs_take : ∀ {σ : L2.St} {S : SS} {i : Nat} {v : V} {m : Md} {d : D}, σ[i]? = some (some v) → S[i]? = some (some (m, d)) → (prs σ S).Perm ((m, v, d) :: prs σ (S.set i none))
  | [], _, _, _, _, _, h, _ => by simp at h
  | _ :: _, [], _, _, _, _, _, h => by simp at h
  | x :: σ, y :: S, 0, v, m, d, h, h2 => by
    simp at h h2
    subst h; subst h2
    simp only [prs, List.set_cons_zero, List.zip_cons_cons, List.filterMap_cons, one]
    exact .refl _
  | x :: σ, y :: S, i + 1, v, m, d, h, h2 => by
    have ih := prs_take (σ := σ) (S := S) (i := i) (by simpa using h) (by simpa using h2)
    simp only [prs, List.zip_cons_cons, List.filterMap_cons, List.set_cons_succ] at ih ⊢
    cases hx : one (x, y) with
    | none => exact ih
    | some t => exact (ih.cons t).trans (.swap _ _ _)
theorem prs_put : ∀ {σ : L2.St} {S : SS} {i : Nat} {v : V} {m : Md} {d : D}, i < σ.length → i < S.length → (prs (σ.set i (some v)) (S.set i (some (m, d)))).Perm ((m, v, d) :: prs σ (S.set i none))
  | [], _, _, _, _, _, h, _ => by simp at h
  | _ :: _, [], _, _, _, _, _, h => by simp at h
  | x :: σ, y :: S, 0, v, m, d, h, h2 => by
    simp only [prs, List.set_cons_zero, List.zip_cons_cons, List.filterMap_cons]
    have e : one (x, none) = none := by cases x <;> rfl
    rw [e]
    exact .refl _
  | x :: σ, y :: S, i + 1, v, m, d, h, h2 => by
    have ih := prs_put (σ := σ) (S := S) (i := i) (v := v) (m := m) (d := d) (by simpa using h) (by simpa using h2)
    simp only [prs, List.zip_cons_cons, List.filterMap_cons, List.set_cons_succ] at ih ⊢
    cases hx : one (x, y) with
    | none => exact ih
    | some t => exact (ih.cons t).trans (.swap _ _ _)
/-- the state: the slots, then the rest (what is in hand, the callers') -/
structure SOk (c : Gh) (G H : Hp) (σ : L2.St) (S : SS) (R : List T3) : Prop where
  cov : Cov σ S
  rel : Rel c G H (R ++ prs σ S)
theorem set_self {α : Type} : ∀ {l : List α} {i : Nat} {x : α}, l[i]? = some x → l.set i x = l
  | [], _, _, h => by simp at h
  | a :: l, 0, x, h => by simp at h; subst h; rfl
  | a :: l, i + 1, x, h => by rw [List.set_cons_succ, set_self (l := l) (by simpa using h)]
theorem Cov.none {σ : L2.St} {S : SS} (h : Cov σ S) (i : Nat) : Cov σ (S.set i none) := ⟨by rw [List.length_set]; exact h.len, fun j x e => by
  by_cases q : i = j
  · subst q
    by_cases hl : i < S.length
    · rw [List.getElem?_set_self hl] at e; cases e
    · rw [List.getElem?_eq_none (by simpa using hl)] at e; cases e
  · rw [List.getElem?_set_ne q] at e; exact h.at_ j x e⟩
theorem Cov.put {σ : L2.St} {S : SS} (h : Cov σ S) {i : Nat} {x : Md × D} {v : V} (e : σ[i]? = some (some v)) : Cov σ (S.set i (some x)) := ⟨by rw [List.length_set]; exact h.len, fun j y e2 => by
  by_cases q : i = j
  · subst q; exact ⟨v, e⟩
  · rw [List.getElem?_set_ne q] at e2; exact h.at_ j y e2⟩
theorem lt_of_get {α : Type} {l : List α} {i : Nat} {x : α} (h : l[i]? = some x) : i < l.length := by
  obtain ⟨a, _⟩ := List.getElem?_eq_some_iff.mp h
  exact a
section
variable {c : Gh} {G H : Hp} {σ : L2.St} {S : SS} {R : List T3}
theorem SOk.slot (h : SOk c G H σ S R) {i : Nat} {m : Md} {d : D} (e : S[i]? = some (some (m, d))) : ∃ v, σ[i]? = some (some v) ∧ Rel c G H ((m, v, d) :: (R ++ prs σ (S.set i none))) := by
  obtain ⟨v, hv⟩ := h.cov.at_ i _ e
  exact ⟨v, hv, h.rel.perm (((prs_take hv e).append_left R).trans List.perm_middle)⟩
theorem SOk.put (h : Cov σ S) {i : Nat} {m : Md} {d : D} {v : V} (e : σ[i]? = some (some v)) (hi : i < S.length) (r : Rel c G H ((m, v, d) :: (R ++ prs σ (S.set i none)))) : SOk c G H σ (S.set i (some (m, d))) R := by
  refine ⟨h.put e, r.perm ?_⟩
  have p := prs_put (σ := σ) (S := S) (i := i) (v := v) (m := m) (d := d) (lt_of_get e) hi
  rw [set_self e] at p
  exact (List.perm_middle.symm).trans (p.symm.append_left R)
theorem SOk.sub (h : SOk c G H σ S R) : Sub G H := h.rel.sub
end

/-! ### results -/
inductive Er where
  | stuck
  | exc (n : Str) (ds : List D)
abbrev M := Except Er
abbrev MV := Md × D
abbrev FE := SS → M (MV × SS)
abbrev FT := SS → M (Bool × SS)
abbrev stk {α : Type} : M α := .error .stuck

/-- what an expression's reading asks: that f goes on from the state, and what follows -/
def tE (c : Gh) (f : FE) : TE := fun σ H Q => ∃ G S R, SOk c G H σ S R ∧ ∃ r S', f S = .ok (r, S') ∧ ∀ G' v H', Sub G G' → SOk c G' H' σ S' ((r.1, v, r.2) :: R) → Q v H'
def tT (c : Gh) (f : FT) : TT := fun σ H Q => ∃ G S R, SOk c G H σ S R ∧ ∃ b S', f S = .ok (b, S') ∧ ∀ G' H', Sub G G' → SOk c G' H' σ S' R → Q b H'
theorem pemono {X : Cx} {e : Expr} {t t' : TE} (h : PE X e t) (k : ∀ σ H Q, t' σ H Q → t σ H Q) : PE X e t' := ⟨fun pins s σ H Q I q => h.run pins s σ H Q I (k σ H Q q)⟩
theorem ptmono {X : Cx} {e : Expr} {t t' : TT} (h : PT X e t) (k : ∀ σ H Q, t' σ H Q → t σ H Q) : PT X e t' := ⟨fun pins s σ H Q I q => h.run pins s σ H Q I (k σ H Q q)⟩

/-! ### names and constants -/
def fVar (i : Nat) : FE := fun S => match S[i]? with
  | some (some (.sh, d)) => .ok ((.sh, d), S)
  | some (some (.bo, d)) => .ok ((.bo, d), S)
  | some (some (.ow m, d)) => if m.gives then .ok ((.sh, d), S.set i (some (.sh, d))) else stk
  | _ => stk
def fTake (i : Nat) : FE := fun S => match S[i]? with
  | some (some r) => .ok (r, S.set i none)
  | _ => stk
def fCon (d : D) : FE := fun S => .ok ((.sh, d), S)
section
variable {X : Cx} {c : Gh}
theorem de_var {i : Nat} {x : Str} {pos : Pos} (hN : X.N[i]? = some x := by rfl) (hv : Vis X.env.scope x := by first | exact Or.inl rfl | exact Or.inr (Or.inl rfl) | exact Or.inr (Or.inr rfl)) (hd : (x == ("__debug__" : Str)) = false := by decide)
    (hcd : (x == ("__classdict__" : Str)) = false := by decide) : PE X (.Name x pos) (tE c (fVar i)) := by
  refine pemono (pe_var hN hv hd hcd) fun σ H Q h => ?_
  obtain ⟨G, S, R, ok, r, S', e, k⟩ := h
  unfold fVar at e
  split at e
  · rename_i d hS
    cases e
    obtain ⟨v, hv, rl⟩ := ok.slot hS
    exact ⟨v, hv, k G v H (Sub.refl G) ⟨ok.cov, (ok.rel).put_sh rl.sh_of⟩⟩
  · rename_i d hS
    cases e
    obtain ⟨v, hv, rl⟩ := ok.slot hS
    exact ⟨v, hv, k G v H (Sub.refl G) ⟨ok.cov, (ok.rel).put_bo rl.bo_of⟩⟩
  · rename_i m d hS
    split at e
    · rename_i hm
      cases e
      obtain ⟨v, hv, rl⟩ := ok.slot hS
      obtain ⟨G', s, rl'⟩ := Rel.share (m := .ow m) hm rl
      have z := rl'.sh_of
      refine ⟨v, hv, k G' v H s ?_⟩
      have ok2 := SOk.put ok.cov hv (lt_of_get hS) rl'
      exact ⟨ok2.cov, ok2.rel.put_sh z⟩
    · cases e
  · cases e
theorem de_take {i : Nat} {x : Str} {pos : Pos} (hN : X.N[i]? = some x := by rfl) (hv : Vis X.env.scope x := by first | exact Or.inl rfl | exact Or.inr (Or.inl rfl) | exact Or.inr (Or.inr rfl)) (hd : (x == ("__debug__" : Str)) = false := by decide)
    (hcd : (x == ("__classdict__" : Str)) = false := by decide) : PE X (.Name x pos) (tE c (fTake i)) := by
  refine pemono (pe_var hN hv hd hcd) fun σ H Q h => ?_
  obtain ⟨G, S, R, ok, r, S', e, k⟩ := h
  unfold fTake at e
  split at e
  · rename_i d hS
    cases e
    obtain ⟨v, hv, rl⟩ := ok.slot hS
    exact ⟨v, hv, k G v H (Sub.refl G) ⟨ok.cov.none i, rl⟩⟩
  · cases e
/-- a value that points nowhere -/
theorem de_con {v : V} {d : D} {e : Expr} (h : PE X e (tC v)) (hd : ∀ G, Dq c.K G v d) : PE X e (tE c (fCon d)) := by
  refine pemono h fun σ H Q q => ?_
  obtain ⟨G, S, R, ok, r, S', e, k⟩ := q
  cases e
  exact k G v H (Sub.refl G) ⟨ok.cov, ok.rel.put_sh (hd G)⟩
theorem de_int {i j pos} : PE X (.Constant (.int i) j pos) (tE c (fCon (.int i))) := de_con pe_int fun _ => .int i
theorem de_bl {b j pos} : PE X (.Constant (.bool b) j pos) (tE c (fCon (.bool b))) := de_con pe_bl fun _ => .bl b
theorem de_non {j pos} : PE X (.Constant .none j pos) (tE c (fCon .none)) := de_con pe_non fun _ => .non
theorem de_str {x j pos} : PE X (.Constant (.str x) j pos) (tE c (fCon (.str x))) := de_con pe_str fun _ => .str x
/-- a constant of the module -/
theorem de_glob {x : Str} {d : D} {pos : Pos} (hg : Gl X x) (h : ∃ v u, X.mg x = some u ∧ RelV v u ∧ ∀ G, Dq c.K G v d) (hd : (x == ("__debug__" : Str)) = false := by decide) : PE X (.Name x pos) (tE c (fCon d)) := by
  obtain ⟨v, u, h1, h2, h3⟩ := h
  exact de_con (pe_glob hg h1 h2 hd) h3
end
end O
set_option maxRecDepth 100000
namespace O
open PySem PySem.Spec PyProof.Rows L2

/-! ### what is in hand, seen -/
def View (c : Gh) (G H : Hp) (r : MV) (v : V) : Prop := ∃ F, Rep c G H r.1 v r.2 F
theorem Reps.mem {c : Gh} {G H : Hp} {t : T3} : ∀ {L : List T3} {F : List Addr}, Reps c G H L F → t ∈ L → ∃ F, Rep c G H t.1 t.2.1 t.2.2 F
  | _, _, .nil, h => by simp at h
  | _, _, .cons a t, h => by
    rcases List.mem_cons.mp h with rfl | h
    · exact ⟨_, a⟩
    · exact Reps.mem t h
theorem Rel.view {c : Gh} {G H : Hp} {L : List T3} (r : Rel c G H L) {m : Md} {v : V} {d : D} (h : (m, v, d) ∈ L) : View c G H (m, d) v := by
  obtain ⟨F, h', _⟩ := r.own
  exact h'.mem h
theorem dp_of_fa3 {c : Gh} {G H : Hp} {m : Md} (ih : ∀ {v : V} {d : D} {F : List Addr}, Rep c G H m v d F → Dp c.K H v d) : ∀ {vs : List V} {ds : List D} {Fs : List (List Addr)}, Fa3 (Rep c G H m) vs ds Fs → DpAll c.K H vs ds
  | _, _, _, .nil => .nil
  | _, _, _, .cons a t => .cons (ih a) (dp_of_fa3 ih t)
/-- what is held may be read as it stands -/
theorem Rep.dpm {c : Gh} {G H : Hp} (s : Sub G H) (b : Sub c.B H) : ∀ {m : Md}, m.plain = true → ∀ {v : V} {d : D} {F : List Addr}, Rep c G H m v d F → Dp c.K H v d := by
  intro m
  induction m with
  | sh => intro _ v d F h; exact Dq.dp _ _ (Dq.sub s _ _ h.2)
  | bo => intro _ v d F h; exact Dq.dp _ _ (Dq.sub (s.of_un b) _ _ h.2)
  | bx =>
    intro _ v d F h
    obtain ⟨p, q, vs, ws, ds, es, rfl, rfl, h3, h4, h5, h6, _⟩ := h
    exact .lst (.inl (.inl h3)) (.cons (.lst (.inl (.inl h4)) (Dq.dpAll _ _ (Dq.subAll s _ _ h6))) (Dq.dpAll _ _ (Dq.subAll s _ _ h5)))
  | dk => intro n; cases n
  | fn => intro n; cases n
  | ow m ih =>
    intro n v d F h
    obtain ⟨_, a, vs, ds, Fs, rfl, rfl, h3, h4, _⟩ := h
    exact .lst (.inl (.inl h3)) (dp_of_fa3 (ih n) h4)
/-- no dict stands there -/
def noDic : D → Bool
  | .dict _ => false
  | _ => true
theorem Rep.plain_of {c : Gh} {G H : Hp} {m : Md} {v : V} {d : D} {F : List Addr} (h : Rep c G H m v d F) (n : noDic d = true) : m.plain = true := by
  cases m with
  | dk =>
    obtain ⟨a, kvs, ds, _, rfl, _⟩ := h
    cases n
  | fn =>
    obtain ⟨_, x, a, _, rfl, _⟩ := h
    cases n
  | ow m => exact h.1
  | _ => rfl
theorem View.dp {c : Gh} {G H : Hp} {L : List T3} (r : Rel c G H L) {x : MV} {v : V} (h : View c G H x v) (n : noDic x.2 = true := by rfl) : Dp c.K H v x.2 := by
  obtain ⟨F, h⟩ := h
  exact h.dpm r.sub r.subB (h.plain_of n)
theorem dqAll_flat {K : PySem.W.Frag} {G G' : Hp} : ∀ {ds : List D} {vs : List V}, ds.all flatD = true → DqAll K G vs ds → DqAll K G' vs ds
  | [], _, _, h => by cases h; exact .nil
  | d :: ds, _, n, h => by
    rw [List.all_cons, Bool.and_eq_true] at n
    cases h with | cons a b => exact .cons (Dq.flat n.1 a) (dqAll_flat n.2 b)
/-- the items of a list or a tuple, if they are for all -/
def kids : MV → M (List D)
  | (.sh, .tuple ds) => .ok ds
  | (.sh, .list ds) => .ok ds
  | (.ow .sh, .list ds) => .ok ds
  | (.bo, .tuple ds) => if ds.all flatD then .ok ds else stk
  | (.bo, .list ds) => if ds.all flatD then .ok ds else stk
  | _ => stk
/-- a sequence at a, its kind told by its datum -/
def SeqD (K : PySem.W.Frag) (H : Hp) (a : Addr) (vs : List V) (ds : List D) (d : D) : Prop := (d = .list ds ∧ H a = some (.lst vs)) ∨ (d = .tuple ds ∧ SqT K H a vs)
theorem Rep.kids {c : Gh} {G H : Hp} {L : List T3} (r : Rel c G H L) : ∀ {m : Md} {d : D} {F : List Addr} {v : V} {ds : List D}, Rep c G H m v d F → kids (m, d) = .ok ds → ∃ a vs, v = .ref a ∧ SeqD c.K H a vs ds d ∧ DqAll c.K G vs ds := by
  intro m d F v ds h k
  match m, d, h, k with
  | .sh, .tuple _, h, k => cases k; cases h.2 with | tup a b => exact ⟨_, _, rfl, .inr ⟨rfl, SqT.sub r.sub a⟩, b⟩
  | .sh, .list _, h, k => cases k; cases h.2 with | lst a b => exact ⟨_, _, rfl, .inl ⟨rfl, r.sub _ _ a⟩, b⟩
  | .ow .sh, .list _, h, k =>
    cases k
    obtain ⟨a, vs, ds', rfl, h2, h3, h4, _⟩ := of_rep_ow h
    cases h2
    exact ⟨_, _, rfl, .inl ⟨rfl, h3⟩, h4⟩
  | .bo, .tuple xs, h, k =>
    simp only [O.kids] at k
    split at k
    · rename_i hf
      cases k
      cases h.2 with | tup a b => exact ⟨_, _, rfl, .inr ⟨rfl, SqT.sub (r.sub.of_un r.subB) a⟩, dqAll_flat hf b⟩
    · cases k
  | .bo, .list xs, h, k =>
    simp only [O.kids] at k
    split at k
    · rename_i hf
      cases k
      cases h.2 with | lst a b => exact ⟨_, _, rfl, .inl ⟨rfl, (r.sub.of_un r.subB) _ _ a⟩, dqAll_flat hf b⟩
    · cases k
theorem View.kids {c : Gh} {G H : Hp} {L : List T3} (r : Rel c G H L) {x : MV} {v : V} {ds : List D} (h : View c G H x v) (k : kids x = .ok ds) : ∃ a vs, v = .ref a ∧ SeqD c.K H a vs ds x.2 ∧ DqAll c.K G vs ds := by
  obtain ⟨F, h⟩ := h
  exact h.kids r k

theorem Reps.sublist {c : Gh} {G H : Hp} {L L' : List T3} (s : L'.Sublist L) : ∀ {F}, Reps c G H L F → ∃ F', Reps c G H L' F' ∧ F'.Sublist F := by
  induction s with
  | slnil => intro F h; exact ⟨F, h, .refl _⟩
  | cons t _ ih =>
    intro F h
    cases h with
    | cons a t =>
      obtain ⟨F', h1, h2⟩ := ih t
      exact ⟨F', h1, h2.trans (List.sublist_append_right _ _)⟩
  | cons_cons t _ ih =>
    intro F h
    cases h with
    | cons a t =>
      obtain ⟨F', h1, h2⟩ := ih t
      exact ⟨_, .cons a h1, h2.append_left _⟩
theorem Rel.sublist {c : Gh} {G H : Hp} {L L' : List T3} (r : Rel c G H L) (s : L'.Sublist L) : Rel c G H L' := by
  obtain ⟨F, h, n, q⟩ := r.own
  obtain ⟨F', h', s'⟩ := h.sublist s
  exact ⟨r.sub, r.subB, r.pu, r.tab, F', h', s'.nodup n, fun a ha => q a (s'.subset ha)⟩

/-! ### operands: in hand, or seen where they stand -/
inductive Tk where
  | val (r : MV)
  | slot (i : Nat)
abbrev FO := SS → M (Tk × SS)
def tkR : Tk → V → List T3
  | .val r, v => [(r.1, v, r.2)]
  | .slot _, _ => []
def tkOk (σ : L2.St) : Tk → V → Prop
  | .val _, _ => True
  | .slot i, v => σ[i]? = some (some v)
def tkGet : Tk → SS → M MV
  | .val r, _ => .ok r
  | .slot i, S => match S[i]? with
    | some (some r) => .ok r
    | _ => stk
def oV (f : FE) : FO := fun S => do
  let (r, S1) ← f S
  pure (.val r, S1)
def oP (i : Nat) : FO := fun S => match S[i]? with
  | some (some _) => .ok (.slot i, S)
  | _ => stk
def tO (c : Gh) (f : FO) : TE := fun σ H Q => ∃ G S R, SOk c G H σ S R ∧ ∃ t S', f S = .ok (t, S') ∧ ∀ G' v H', Sub G G' → tkOk σ t v → SOk c G' H' σ S' (tkR t v ++ R) → Q v H'
theorem bind_ok {α β : Type} {m : M α} {f : α → M β} {b : β} (h : (m >>= f) = .ok b) : ∃ a, m = .ok a ∧ f a = .ok b := by
  cases m with
  | error e => cases h
  | ok a => exact ⟨a, rfl, h⟩
section
variable {X : Cx} {c : Gh}
theorem do_val {e : Expr} {f : FE} (h : PE X e (tE c f)) : PE X e (tO c (oV f)) := by
  refine pemono h fun σ H Q q => ?_
  obtain ⟨G, S, R, ok, t, S', e, k⟩ := q
  obtain ⟨⟨r, S1⟩, e1, e2⟩ := bind_ok e
  cases e2
  exact ⟨G, S, R, ok, r, _, e1, fun G' v H' s ok' => k G' v H' s trivial ok'⟩
theorem do_pk {i : Nat} {x : Str} {pos : Pos} (hN : X.N[i]? = some x := by rfl) (hv : Vis X.env.scope x := by first | exact Or.inl rfl | exact Or.inr (Or.inl rfl) | exact Or.inr (Or.inr rfl)) (hd : (x == ("__debug__" : Str)) = false := by decide)
    (hcd : (x == ("__classdict__" : Str)) = false := by decide) : PE X (.Name x pos) (tO c (oP i)) := by
  refine pemono (pe_var hN hv hd hcd) fun σ H Q q => ?_
  obtain ⟨G, S, R, ok, t, S', e, k⟩ := q
  unfold oP at e
  split at e
  · rename_i r hS
    cases e
    obtain ⟨v, hv⟩ := ok.cov.at_ i r hS
    exact ⟨v, hv, k G v H (Sub.refl G) hv ok⟩
  · cases e
end
theorem tk_view {c : Gh} {G H : Hp} {σ : L2.St} {S : SS} {R R' : List T3} {t : Tk} {v : V} {r : MV} (ok : SOk c G H σ S R') (hR : ∀ x ∈ tkR t v, x ∈ R') (h : tkOk σ t v) (e : tkGet t S = .ok r) : View c G H r v := by
  cases t with
  | val r' => cases e; exact ok.rel.view (List.mem_append_left _ (hR _ (by simp [tkR])))
  | slot i =>
    simp only [tkGet] at e
    split at e
    · rename_i r' hS
      cases e
      obtain ⟨w, hw, rl⟩ := ok.slot hS
      have hv : σ[i]? = some (some v) := h
      rw [hw] at hv; cases hv
      exact rl.view List.mem_cons_self
    · cases e
/-! ### operators of two operands -/
abbrev Sem2 := MV → MV → M MV
def r2D (c : Gh) (sem : Sem2) : R2 := fun x y H Q => ∃ G L ra rb r, Rel c G H L ∧ View c G H ra x ∧ View c G H rb y ∧ sem ra rb = .ok r ∧ ∀ G' v H', Sub G G' → Rel c G' H' ((r.1, v, r.2) :: L) → Q v H'
def fOp2 (sem : Sem2) (oa ob : FO) : FE := fun S => do
  let (ta, S1) ← oa S
  let (tb, S2) ← ob S1
  let ra ← tkGet ta S2
  let rb ← tkGet tb S2
  let r ← sem ra rb
  pure (r, S2)
theorem View.grow {c : Gh} {G G' H : Hp} {x : MV} {v : V} (s : Sub G G') (s2 : Sub G' H) (b : Sub c.B H) (h : View c G H x v) : View c G' H x v := by
  obtain ⟨F, h⟩ := h
  exact ⟨F, h.grow s s2 b⟩
/-- the reading of an operator over its operands -/
theorem op2_read {c : Gh} {sem : Sem2} {oa ob : FO} {σ : L2.St} {H : Hp} {Q : VK} (h : tE c (fOp2 sem oa ob) σ H Q) : tOp (r2D c sem) (tO c oa) (tO c ob) σ H Q := by
  obtain ⟨G, S, R, ok, r, S', e, k⟩ := h
  obtain ⟨⟨ta, S1⟩, e1, e⟩ := bind_ok e
  obtain ⟨⟨tb, S2⟩, e2, e⟩ := bind_ok e
  obtain ⟨ra, e3, e⟩ := bind_ok e
  obtain ⟨rb, e4, e⟩ := bind_ok e
  obtain ⟨r', e5, e⟩ := bind_ok e
  cases e
  refine ⟨G, S, R, ok, ta, S1, e1, fun G1 x H1 s1 h1 ok1 => ?_⟩
  refine ⟨G1, S1, _, ok1, tb, _, e2, fun G2 y H2 s2 h2 ok2 => ?_⟩
  refine ⟨G2, _, ra, rb, r, ok2.rel, tk_view (R := R) ok2 (fun t ht => List.mem_append_right _ (List.mem_append_left _ ht)) h1 e3, tk_view (R := R) ok2 (fun t ht => List.mem_append_left _ ht) h2 e4, e5, fun G' v H' s rl => ?_⟩
  refine k G' v H' ((s1.trans s2).trans s) ⟨ok2.cov, ?_⟩
  refine rl.sublist (List.Sublist.cons_cons _ ?_)
  refine List.Sublist.append_right ?_ _
  exact (List.sublist_append_right _ _).trans (List.sublist_append_right _ _)
section
variable {X : Cx} {c : Gh} {a b : Expr} {oa ob : FO} {pos : Pos}
theorem de_op {op : Operator} {sem : Sem2} (ho : OpR X (binaryOp op) (r2D c sem)) (ha : PE X a (tO c oa)) (hb : PE X b (tO c ob)) : PE X (.BinOp a op b pos) (tE c (fOp2 sem oa ob)) := pemono (pe_op ho ha hb) fun _ _ _ h => op2_read h
theorem de_cmp {op : CmpOp} {sem : Sem2} (ho : OpR X (compareOp op) (r2D c sem)) (ha : PE X a (tO c oa)) (hb : PE X b (tO c ob)) (hm : behindInMarks op b = false := by first | rfl | exact nomark _) : PE X (.Compare a [op] [b] pos) (tE c (fOp2 sem oa ob)) := pemono (pe_cmpR ho ha hb hm) fun _ _ _ h => op2_read h
end
/-- a test by its value -/
def tB1 (f : FE) : FT := fun S => do
  let (r, S1) ← f S
  match r.2 with
  | .bool b => pure (b, S1)
  | _ => stk
theorem tb1_ok {f : FE} {S S' : SS} {b : Bool} (e : tB1 f S = .ok (b, S')) : ∃ m, f S = .ok ((m, .bool b), S') := by
  obtain ⟨⟨⟨m, d⟩, S1⟩, e1, e⟩ := bind_ok e
  cases d <;> cases e
  exact ⟨m, e1⟩
theorem tb_read {c : Gh} {f : FE} {σ : L2.St} {H : Hp} {Q : Bool → Hp → Prop} (h : tT c (tB1 f) σ H Q) : tTest (tE c f) σ H Q := by
  obtain ⟨G, S, R, ok, b, S', e, k⟩ := h
  obtain ⟨m, e⟩ := tb1_ok e
  refine ⟨G, S, R, ok, _, S', e, fun G' v H' s ok' => ?_⟩
  have hd := (ok'.rel.view (m := m) (v := v) (d := .bool b) (by simp)).dp ok'.rel
  cases hd
  exact ⟨b, rfl, k G' H' s ⟨ok'.cov, ok'.rel.drop⟩⟩
section
variable {X : Cx} {c : Gh} {a b : Expr} {oa ob : FO} {pos : Pos}
theorem dt_cmp {op : CmpOp} {sem : Sem2} (ho : OpR X (compareOp op) (r2D c sem)) (ha : PE X a (tO c oa)) (hb : PE X b (tO c ob)) (hm : behindInMarks op b = false := by first | rfl | exact nomark _) : PT X (.Compare a [op] [b] pos) (tT c (tB1 (fOp2 sem oa ob))) := ptmono (pt_cmpR ho ha hb hm) fun σ H Q h => by
  obtain ⟨G, S, R, ok, r, S1, e, k⟩ := tb_read h
  exact op2_read ⟨G, S, R, ok, r, S1, e, k⟩
/-- an expression (no and, or, not, comparison) as a test: its value a bool -/
theorem dt_val {e : Expr} {f : FE} (h : PE X e (tE c f)) (he : ∀ whole, isTrue e X.env whole = (do let v ← whole; standAt e.pos; holding [v] (truthy v)) := by intro _; rfl) : PT X e (tT c (tB1 f)) := ptmono (pt_val h he) fun σ H Q q => tb_read q
def fAndT (f g : FT) : FT := fun S => do
  let (b, S1) ← f S
  if b then g S1 else pure (false, S1)
def fOrT (f g : FT) : FT := fun S => do
  let (b, S1) ← f S
  if b then pure (true, S1) else g S1
def fNotT (f : FT) : FT := fun S => do
  let (b, S1) ← f S
  pure (!b, S1)
theorem not_read {c : Gh} {f : FT} {σ : L2.St} {H : Hp} {Q : Bool → Hp → Prop} (h : tT c (fNotT f) σ H Q) : tNot (tT c f) σ H Q := by
  obtain ⟨G, S, R, ok, b, S', e, k⟩ := h
  obtain ⟨⟨b1, S1⟩, e1, e⟩ := bind_ok e
  cases e
  exact ⟨G, S, R, ok, b1, _, e1, fun G' H' s ok' => k G' H' s ok'⟩
theorem and_read {c : Gh} {f g : FT} {σ : L2.St} {H : Hp} {Q : Bool → Hp → Prop} (h : tT c (fAndT f g) σ H Q) : tAnd (tT c f) (tT c g) σ H Q := by
  obtain ⟨G, S, R, ok, b, S', e, k⟩ := h
  obtain ⟨⟨b1, S1⟩, e1, e⟩ := bind_ok e
  refine ⟨G, S, R, ok, b1, S1, e1, fun G' H' s ok' => ?_⟩
  cases b1 with
  | true => exact ⟨G', S1, R, ok', b, S', e, fun G2 H2 s2 ok2 => k G2 H2 (s.trans s2) ok2⟩
  | false => cases e; exact k G' H' s ok'
theorem or_read {c : Gh} {f g : FT} {σ : L2.St} {H : Hp} {Q : Bool → Hp → Prop} (h : tT c (fOrT f g) σ H Q) : tOr (tT c f) (tT c g) σ H Q := by
  obtain ⟨G, S, R, ok, b, S', e, k⟩ := h
  obtain ⟨⟨b1, S1⟩, e1, e⟩ := bind_ok e
  refine ⟨G, S, R, ok, b1, S1, e1, fun G' H' s ok' => ?_⟩
  cases b1 with
  | true => cases e; exact k G' H' s ok'
  | false => exact ⟨G', S1, R, ok', b, S', e, fun G2 H2 s2 ok2 => k G2 H2 (s.trans s2) ok2⟩
variable {f g : FT} {rest : List Expr}
theorem dt_not (ha : PT X a (tT c f)) : PT X (.UnaryOp .Not a pos) (tT c (fNotT f)) := ptmono (pt_not ha) fun _ _ _ h => not_read h
structure PWd (X : Cx) (c : Gh) (e : Expr) (f : FT) : Prop where
  w : PW X e (tT c f)
theorem dw_and1 (ha : PT X a (tT c f)) : PWd X c (.BoolOp .And [a] pos) f := ⟨pw_and1 ha⟩
theorem dw_or1 (ha : PT X a (tT c f)) : PWd X c (.BoolOp .Or [a] pos) f := ⟨pw_or1 ha⟩
theorem dw_and (ha : PT X a (tT c f)) (hb : PWd X c (.BoolOp .And (b :: rest) pos) g) : PWd X c (.BoolOp .And (a :: b :: rest) pos) (fAndT f g) := ⟨⟨fun wh pins s σ H Q I h => (pw_and ha hb.w).run wh pins s σ H Q I (and_read h)⟩⟩
theorem dw_or (ha : PT X a (tT c f)) (hb : PWd X c (.BoolOp .Or (b :: rest) pos) g) : PWd X c (.BoolOp .Or (a :: b :: rest) pos) (fOrT f g) := ⟨⟨fun wh pins s σ H Q I h => (pw_or ha hb.w).run wh pins s σ H Q I (or_read h)⟩⟩
theorem dt_w {e : Expr} (h : PWd X c e f) : PT X e (tT c f) := h.w.pt
/-- and, or, not of bools as values; a if t else b -/
def fAndV (f g : FE) : FE := fun S => do
  let (r, S1) ← f S
  match r.2 with
  | .bool true => g S1
  | .bool false => pure ((.sh, .bool false), S1)
  | _ => stk
def fOrV (f g : FE) : FE := fun S => do
  let (r, S1) ← f S
  match r.2 with
  | .bool true => pure ((.sh, .bool true), S1)
  | .bool false => g S1
  | _ => stk
def fNotV (f : FE) : FE := fun S => do
  let (r, S1) ← f S
  match r.2 with
  | .bool b => pure ((.sh, .bool !b), S1)
  | _ => stk
def fIf (t : FT) (f g : FE) : FE := fun S => do
  let (b, S1) ← t S
  if b then f S1 else g S1
theorem bool_of {c : Gh} {G H : Hp} {L : List T3} {m : Md} {v : V} {b : Bool} (r : Rel c G H ((m, v, .bool b) :: L)) : v = .bl b := by
  have := (r.view (m := m) (v := v) (d := .bool b) List.mem_cons_self).dp r
  cases this; rfl
theorem de_and {f g : FE} (ha : PE X a (tE c f)) (hb : PE X (.BoolOp .And (b :: rest) pos) (tE c g)) : PE X (.BoolOp .And (a :: b :: rest) pos) (tE c (fAndV f g)) := by
  refine pemono (pe_and ha hb) fun σ H Q h => ?_
  obtain ⟨G, S, R, ok, r, S', e, k⟩ := h
  obtain ⟨⟨r1, S1⟩, e1, e⟩ := bind_ok e
  refine ⟨G, S, R, ok, r1, S1, e1, fun G' v H' s ok' => ?_⟩
  obtain ⟨m1, d1⟩ := r1
  simp only at e
  split at e
  · cases bool_of ok'.rel
    exact ⟨true, rfl, G', S1, R, ⟨ok'.cov, ok'.rel.drop⟩, r, S', e, fun G2 v2 H2 s2 ok2 => k G2 v2 H2 (s.trans s2) ok2⟩
  · cases bool_of ok'.rel
    cases e
    exact ⟨false, rfl, k G' _ H' s ⟨ok'.cov, ok'.rel.drop.put_sh (.bl _)⟩⟩
  · cases e
theorem de_or {f g : FE} (ha : PE X a (tE c f)) (hb : PE X (.BoolOp .Or (b :: rest) pos) (tE c g)) : PE X (.BoolOp .Or (a :: b :: rest) pos) (tE c (fOrV f g)) := by
  refine pemono (pe_or ha hb) fun σ H Q h => ?_
  obtain ⟨G, S, R, ok, r, S', e, k⟩ := h
  obtain ⟨⟨r1, S1⟩, e1, e⟩ := bind_ok e
  refine ⟨G, S, R, ok, r1, S1, e1, fun G' v H' s ok' => ?_⟩
  obtain ⟨m1, d1⟩ := r1
  simp only at e
  split at e
  · cases bool_of ok'.rel
    cases e
    exact ⟨true, rfl, k G' _ H' s ⟨ok'.cov, ok'.rel.drop.put_sh (.bl _)⟩⟩
  · cases bool_of ok'.rel
    exact ⟨false, rfl, G', S1, R, ⟨ok'.cov, ok'.rel.drop⟩, r, S', e, fun G2 v2 H2 s2 ok2 => k G2 v2 H2 (s.trans s2) ok2⟩
  · cases e
theorem de_one {op} {f : FE} (h : PE X a (tE c f)) : PE X (.BoolOp op [a] pos) (tE c f) := pe_one h
theorem de_not {f : FE} (ha : PE X a (tE c f)) : PE X (.UnaryOp .Not a pos) (tE c (fNotV f)) := by
  refine pemono (pe_not ha) fun σ H Q h => ?_
  obtain ⟨G, S, R, ok, r, S', e, k⟩ := h
  obtain ⟨⟨r1, S1⟩, e1, e⟩ := bind_ok e
  refine ⟨G, S, R, ok, r1, S1, e1, fun G' v H' s ok' => ?_⟩
  obtain ⟨m1, d1⟩ := r1
  simp only at e
  split at e
  · rename_i b
    cases bool_of ok'.rel
    cases e
    exact ⟨b, rfl, k G' _ H' s ⟨ok'.cov, ok'.rel.drop.put_sh (.bl _)⟩⟩
  · cases e
theorem de_if {t : Expr} {ft : FT} {f g : FE} (ht : PT X t (tT c ft)) (ha : PE X a (tE c f)) (hb : PE X b (tE c g)) : PE X (.IfExp t a b pos) (tE c (fIf ft f g)) := by
  refine pemono (pe_ifExp ht ha hb) fun σ H Q h => ?_
  obtain ⟨G, S, R, ok, r, S', e, k⟩ := h
  obtain ⟨⟨b1, S1⟩, e1, e⟩ := bind_ok e
  refine ⟨G, S, R, ok, b1, S1, e1, fun G' H' s ok' => ?_⟩
  cases b1 with
  | true => exact ⟨G', S1, R, ok', r, S', e, fun G2 v2 H2 s2 ok2 => k G2 v2 H2 (s.trans s2) ok2⟩
  | false => exact ⟨G', S1, R, ok', r, S', e, fun G2 v2 H2 s2 ok2 => k G2 v2 H2 (s.trans s2) ok2⟩
end
end O
set_option maxRecDepth 100000
namespace O
open PySem PySem.Spec PyProof.Rows L2

def shI (i : Int) : MV := (.sh, .int i)
def shB (b : Bool) : MV := (.sh, .bool b)
section
variable {X : Cx} {c : Gh}
theorem int_of {c : Gh} {G H : Hp} {L : List T3} {m : Md} {v : V} {i : Int} (r : Rel c G H L) (h : View c G H (m, .int i) v) : v = .int i := by
  have := h.dp r
  cases this; rfl
theorem str_of {c : Gh} {G H : Hp} {L : List T3} {m : Md} {v : V} {i : Str} (r : Rel c G H L) (h : View c G H (m, .str i) v) : v = .str i := by
  have := h.dp r
  cases this; rfl
theorem bl_of {c : Gh} {G H : Hp} {L : List T3} {m : Md} {v : V} {i : Bool} (r : Rel c G H L) (h : View c G H (m, .bool i) v) : v = .bl i := by
  have := h.dp r
  cases this; rfl
theorem non_of {c : Gh} {G H : Hp} {L : List T3} {m : Md} {v : V} (r : Rel c G H L) (h : View c G H (m, .none) v) : v = .non := by
  have := h.dp r
  cases this; rfl
/-- an operator of ints -/
def semI (C : Int → Int → Bool) (g : Int → Int → D) : Sem2 := fun a b => match a.2, b.2 with
  | .int i, .int j => if C i j then .ok (.sh, g i j) else stk
  | _, _ => stk
theorem semI_ok {C : Int → Int → Bool} {g : Int → Int → D} {a b r : MV} (h : semI C g a b = .ok r) : ∃ m n i j, a = (m, .int i) ∧ b = (n, .int j) ∧ C i j = true ∧ r = (.sh, g i j) := by
  obtain ⟨m, d⟩ := a
  obtain ⟨n, e⟩ := b
  cases d <;> cases e <;> simp only [semI] at h <;> first
    | (cases h; done)
    | (split at h
       · rename_i hc
         cases h
         exact ⟨m, n, _, _, rfl, rfl, hc, rfl⟩
       · cases h)
/-- ends with a datum that points nowhere -/
theorem r2_end {c : Gh} {G H : Hp} {L : List T3} {r : MV} {v : V} {Q : VK} (rl : Rel c G H L) (k : ∀ G' v H', Sub G G' → Rel c G' H' ((r.1, v, r.2) :: L) → Q v H') (hm : r.1 = .sh) (hd : Dq c.K G v r.2) : Q v H := by
  obtain ⟨m, d⟩ := r
  cases hm
  exact k G v H (Sub.refl G) (rl.put_sh hd)
theorem op_I {f : Value → Value → Sem Value} {C : Int → Int → Bool} {C' : Int → Int → Prop} {g : Int → Int → V} {g' : Int → Int → D} (ho : OpR X f (rI C' g)) (hC : ∀ i j, C i j = true → C' i j) (hg : ∀ G i j, Dq c.K G (g i j) (g' i j)) : OpR X f (r2D c (semI C g')) := by
  intro pins s σ H x y v u Q I rx ry h
  obtain ⟨G, L, ra, rb, r, rl, va, vb, e, k⟩ := h
  obtain ⟨m, n, i, j, rfl, rfl, hc, rfl⟩ := semI_ok e
  exact ho pins s σ H x y v u Q I rx ry ⟨i, j, int_of rl va, int_of rl vb, hC i j hc, r2_end rl k rfl (hg G i j)⟩
theorem op_I0 {f : Value → Value → Sem Value} {g : Int → Int → V} {g' : Int → Int → D} (ho : OpR X f (rI0 g)) (hg : ∀ G i j, Dq c.K G (g i j) (g' i j)) : OpR X f (r2D c (semI (fun _ _ => true) g')) := by
  intro pins s σ H x y v u Q I rx ry h
  obtain ⟨G, L, ra, rb, r, rl, va, vb, e, k⟩ := h
  obtain ⟨m, n, i, j, rfl, rfl, hc, rfl⟩ := semI_ok e
  exact ho pins s σ H x y v u Q I rx ry ⟨i, j, int_of rl va, int_of rl vb, r2_end rl k rfl (hg G i j)⟩
def always : Int → Int → Bool := fun _ _ => true
def semSub : Sem2 := semI always fun i j => .int (i - j)
def semFdiv : Sem2 := semI (fun i j => decide (j ≠ 0 ∧ j.natAbs.log2 < 9000)) fun i j => .int (i.fdiv j)
theorem op_fdivZ : OpR X (binaryOp .FloorDiv) (rI (fun _ j => j ≠ 0 ∧ j.natAbs.log2 < 9000) fun i j => .int (i.fdiv j)) := opI fun i j _ _ _ _ _ hc q => floordiv_int hc.1 q (.inl (PyProof.noPylong_of_log2 hc.2))
def semMod : Sem2 := semI (fun i j => decide (0 < j)) fun i j => .int (i % j)
def semPow : Sem2 := semI (fun i j => decide (0 ≤ j ∧ j ≤ 1000000 ∧ i.natAbs < 2 ^ 64)) fun i j => .int (i ^ j.toNat)
def semShl : Sem2 := semI (fun i j => decide (0 ≤ j ∧ j ≤ 1000000 ∧ i.natAbs < 2 ^ 64)) fun i j => .int (i * 2 ^ j.toNat)
def semShr : Sem2 := semI (fun i j => decide (0 ≤ j)) fun i j => .int (i / 2 ^ j.toNat)
def semAnd : Sem2 := semI always fun i j => .int (Builtin.bitAnd i j)
def semOr : Sem2 := semI always fun i j => .int (Builtin.bitOr i j)
def semXor : Sem2 := semI always fun i j => .int (Builtin.bitXor i j)
def semLeI : Sem2 := semI always fun i j => .bool (decide (i ≤ j))
def semGtI : Sem2 := semI always fun i j => .bool (decide (j < i))
def semGeI : Sem2 := semI always fun i j => .bool (decide (j ≤ i))
theorem o_sub : OpR X (binaryOp .Sub) (r2D c semSub) := op_I0 op_sub fun G i j => .int _
theorem o_isub : OpR X (inplaceOp .Sub) (r2D c semSub) := op_I0 iop_sub fun G i j => .int _
theorem o_fdiv : OpR X (binaryOp .FloorDiv) (r2D c semFdiv) := op_I op_fdivZ (fun i j h => show j ≠ 0 ∧ _ from of_decide_eq_true h) fun G i j => .int _
theorem o_mod : OpR X (binaryOp .Mod) (r2D c semMod) := op_I op_mod (fun i j h => by simpa using h) fun G i j => .int _
theorem o_pow : OpR X (binaryOp .Pow) (r2D c semPow) := op_I op_pow (fun i j h => show 0 ≤ j ∧ _ from of_decide_eq_true h) fun G i j => .int _
theorem o_shl : OpR X (binaryOp .LShift) (r2D c semShl) := op_I op_shl (fun i j h => show 0 ≤ j ∧ _ from of_decide_eq_true h) fun G i j => .int _
theorem o_shr : OpR X (binaryOp .RShift) (r2D c semShr) := op_I op_shr (fun i j h => by simpa using h) fun G i j => .int _
theorem o_and : OpR X (binaryOp .BitAnd) (r2D c semAnd) := op_I0 op_and fun G i j => .int _
theorem o_or : OpR X (binaryOp .BitOr) (r2D c semOr) := op_I0 op_or fun G i j => .int _
theorem o_xor : OpR X (binaryOp .BitXor) (r2D c semXor) := op_I0 op_xor fun G i j => .int _
theorem o_le : OpR X (compareOp .LtE) (r2D c semLeI) := op_I0 op_le fun G i j => .bl _
theorem o_gt : OpR X (compareOp .Gt) (r2D c semGtI) := op_I0 op_gt fun G i j => .bl _
theorem o_ge : OpR X (compareOp .GtE) (r2D c semGeI) := op_I0 op_ge fun G i j => .bl _

/-! ### a new object -/
theorem new_tup_end {G H : Hp} {L : List T3} {ds : List D} {vs : List V} {Q : VK} (rl : Rel c G H L) (hd : DqAll c.K G vs ds) (k : ∀ G' v H', Sub G G' → Rel c G' H' ((.sh, v, .tuple ds) :: L) → Q v H') : NewT H Q vs := fun p o ho hp => by
  obtain ⟨s, r2⟩ := rl.new_tupF ho hp hd
  exact k _ _ _ s r2
theorem new_lst_end {G H : Hp} {L : List T3} {ds : List D} {vs : List V} {Q : VK} (rl : Rel c G H L) (hd : DqAll c.K G vs ds) (k : ∀ G' v H', Sub G G' → Rel c G' H' ((.ow .sh, v, .list ds) :: L) → Q v H') : ∀ p, H p = none → Q (.ref p) (upd H p (.lst vs)) := fun p hp =>
  k G _ _ (Sub.refl G) (rl.new_lst hp hd)

/-! ### + -/
def semAdd : Sem2 := fun a b => match a, b with
  | (_, .int i), (_, .int j) => .ok (.sh, .int (i + j))
  | (_, .str x), (_, .str y) => if x.length + y.length ≤ sizeLine then .ok (.sh, .str (x ++ y)) else stk
  | (.sh, .tuple xs), (.sh, .tuple ys) => if xs.length + ys.length ≤ sizeLine then .ok (.sh, .tuple (xs ++ ys)) else stk
  | (m, .list xs), (n, .list ys) => do
    let xs ← kids (m, .list xs)
    let ys ← kids (n, .list ys)
    if xs.length + ys.length ≤ sizeLine then .ok (.ow .sh, .list (xs ++ ys)) else stk
  | _, _ => stk
theorem sh_dq {c : Gh} {G H : Hp} {v : V} {d : D} (h : View c G H (.sh, d) v) : Dq c.K G v d := by
  obtain ⟨F, h⟩ := h
  exact h.2
theorem kids_list {c : Gh} {G H : Hp} {L : List T3} (r : Rel c G H L) {m : Md} {v : V} {ds es : List D} (h : View c G H (m, .list es) v) (k : kids (m, .list es) = .ok ds) : ∃ a vs, v = .ref a ∧ H a = some (.lst vs) ∧ DqAll c.K G vs ds := by
  obtain ⟨a, vs, h1, h2, h3⟩ := h.kids r k
  rcases h2 with ⟨z, q⟩ | ⟨z, _⟩
  · exact ⟨a, vs, h1, q, h3⟩
  · cases z
theorem o_add (hK : c.K = X.K) : OpR X (binaryOp .Add) (r2D c semAdd) := by
  intro pins s σ H x y v u Q I rx ry h
  obtain ⟨G, L, ra, rb, r, rl, va, vb, e, k⟩ := h
  unfold semAdd at e
  split at e
  · cases e
    exact op_add pins s σ H x y v u Q I rx ry ⟨_, _, int_of rl va, int_of rl vb, r2_end rl k rfl (.int _)⟩
  · split at e
    · rename_i hl
      cases e
      exact op_add_str pins s σ H x y v u Q I rx ry ⟨_, _, str_of rl va, str_of rl vb, hl, r2_end rl k rfl (.str _)⟩
    · cases e
  · split at e
    · rename_i hl
      cases e
      have p1 := sh_dq va
      have p2 := sh_dq vb
      cases p1 with
      | tup a1 d1 f1 =>
        cases p2 with
        | tup a2 d2 f2 =>
          have l1 := d1.length
          have l2 := d2.length
          refine op_catF pins s σ H _ _ v u Q I rx ry ⟨_, _, _, _, rfl, rfl, by rw [← hK]; exact SqT.sub rl.sub a1, by rw [← hK]; exact SqT.sub rl.sub a2, by omega, fun z => ?_, fun _ z => ?_, fun _ _ => new_tup_end rl (d1.app d2) k⟩
          · subst z
            cases d1
            exact r2_end rl k rfl (.tup a2 d2 f2)
          · subst z
            cases d2
            exact r2_end rl k rfl (by rw [List.append_nil]; exact .tup a1 d1 f1)
    · cases e
  · obtain ⟨xs, e1, e⟩ := bind_ok e
    obtain ⟨ys, e2, e⟩ := bind_ok e
    split at e
    · rename_i hl
      cases e
      obtain ⟨a1, us, rfl, q1, p1⟩ := kids_list rl va e1
      obtain ⟨a2, ws, rfl, q2, p2⟩ := kids_list rl vb e2
      have l1 := p1.length
      have l2 := p2.length
      exact op_cat pins s σ H _ _ v u Q I rx ry ⟨_, _, _, _, rfl, rfl, q1, q2, by omega, new_lst_end rl (p1.app p2) k⟩
    · cases e
  · cases e
/-! ### * -/
def semMul : Sem2 := fun a b => match a, b with
  | (_, .int i), (_, .int j) => if (Builtin.Int.intBits i : Int) + (Builtin.Int.intBits j : Int) ≤ 134217728 then .ok (.sh, .int (i * j)) else stk
  | (m, .list xs), (_, .int n) => do
    let xs ← kids (m, .list xs)
    if -(2 ^ 63) ≤ n ∧ n < 2 ^ 63 ∧ xs.length * n.toNat ≤ sizeLine then .ok (.ow .sh, .list (List.replicate n.toNat xs).flatten) else stk
  | _, _ => stk
theorem dq_flat {K : PySem.W.Frag} {G : Hp} {vs : List V} {ds : List D} (h : DqAll K G vs ds) : ∀ n : Nat, DqAll K G (List.replicate n vs).flatten (List.replicate n ds).flatten
  | 0 => .nil
  | n + 1 => by
    rw [List.replicate_succ, List.replicate_succ, List.flatten_cons, List.flatten_cons]
    exact h.app (dq_flat h n)
theorem o_mul : OpR X (binaryOp .Mult) (r2D c semMul) := by
  intro pins s σ H x y v u Q I rx ry h
  obtain ⟨G, L, ra, rb, r, rl, va, vb, e, k⟩ := h
  unfold semMul at e
  split at e
  · split at e
    · rename_i hl
      cases e
      exact op_mulX pins s σ H x y v u Q I rx ry ⟨_, _, int_of rl va, int_of rl vb, hl, r2_end rl k rfl (.int _)⟩
    · cases e
  · obtain ⟨xs, e1, e⟩ := bind_ok e
    split at e
    · rename_i hl
      cases e
      obtain ⟨a1, us, rfl, q1, p1⟩ := kids_list rl va e1
      have l1 := p1.length
      exact op_rep pins s σ H _ _ v u Q I rx ry ⟨_, _, _, rfl, int_of rl vb, q1, hl.1, hl.2.1, by rw [l1]; exact hl.2.2, new_lst_end rl (dq_flat p1 _) k⟩
    · cases e
  · cases e

/-! ### == and != -/
/-- == of the two is told by the model -/
def eqOk (d e : D) : Bool := match d, e with
  | .str _, .str _ => true
  | _, _ => SeqAt.shaped d && SeqAt.shaped e
def semEq : Sem2 := fun a b => if eqOk a.2 b.2 then .ok (.sh, .bool (PyData.eqv a.2 b.2)) else stk
def semNe : Sem2 := fun a b => if eqOk a.2 b.2 then .ok (.sh, .bool (!PyData.eqv a.2 b.2)) else stk
theorem shaped_nd {d : D} (h : SeqAt.shaped d = true) : noDic d = true := by
  cases d <;> first | rfl | simp [SeqAt.shaped, PyData.canLay0] at h
theorem eqOk_nd {d e : D} (h : eqOk d e = true) : noDic d = true ∧ noDic e = true := by
  by_cases hs : ∃ a b, d = .str a ∧ e = .str b
  · obtain ⟨a, b, rfl, rfl⟩ := hs
    exact ⟨rfl, rfl⟩
  · have hc' : (SeqAt.shaped d && SeqAt.shaped e) = true := by
      cases d <;> cases e <;> first | exact h | exact absurd ⟨_, _, rfl, rfl⟩ hs
    rw [Bool.and_eq_true] at hc'
    exact ⟨shaped_nd hc'.1, shaped_nd hc'.2⟩
theorem alike_nd {d e : D} (h : PySem.W.alike d e = true) : noDic d = true ∧ noDic e = true := by
  cases d <;> cases e <;> first | exact ⟨rfl, rfl⟩ | simp [PySem.W.alike] at h
theorem eqv_str (x y : Str) : PyData.eqv (.str x) (.str y) = (x == y) := by simp [PyData.eqv]
theorem o_eq (hu : X.A.units + 64 < cLine) (hK : c.K = X.K) : OpR X (compareOp .Eq) (r2D c semEq) := by
  intro pins s σ H x y v u Q I rx ry h
  obtain ⟨G, L, ra, rb, r, rl, va, vb, e, k⟩ := h
  obtain ⟨m, d⟩ := ra
  obtain ⟨n, d'⟩ := rb
  unfold semEq at e
  split at e
  · rename_i hc
    have h1 := va.dp rl (eqOk_nd hc).1
    have h2 := vb.dp rl (eqOk_nd hc).2
    rw [hK] at h1 h2
    cases e
    by_cases hs : ∃ a b, d = .str a ∧ d' = .str b
    · obtain ⟨a, b, rfl, rfl⟩ := hs
      cases h1
      cases h2
      refine op_eq pins s σ H _ _ v u Q I rx ry ⟨rfl, ?_⟩
      rw [dec_str, ← eqv_str]
      exact r2_end rl k rfl (.bl _)
    · have hc' : (SeqAt.shaped d && SeqAt.shaped d') = true := by
        cases d <;> cases d' <;> first | exact hc | exact absurd ⟨_, _, rfl, rfl⟩ hs
      rw [Bool.and_eq_true] at hc'
      exact op_eqD hu pins s σ H _ _ v u Q I rx ry ⟨d, d', h1, h2, hc'.1, hc'.2, r2_end rl k rfl (.bl _)⟩
  · cases e
theorem o_ne (hu : X.A.units + 64 < cLine) (hK : c.K = X.K) : OpR X (compareOp .NotEq) (r2D c semNe) := by
  intro pins s σ H x y v u Q I rx ry h
  obtain ⟨G, L, ra, rb, r, rl, va, vb, e, k⟩ := h
  obtain ⟨m, d⟩ := ra
  obtain ⟨n, d'⟩ := rb
  unfold semNe at e
  split at e
  · rename_i hc
    have h1 := va.dp rl (eqOk_nd hc).1
    have h2 := vb.dp rl (eqOk_nd hc).2
    rw [hK] at h1 h2
    cases e
    by_cases hs : ∃ a b, d = .str a ∧ d' = .str b
    · obtain ⟨a, b, rfl, rfl⟩ := hs
      cases h1
      cases h2
      refine op_ne pins s σ H _ _ v u Q I rx ry ⟨rfl, ?_⟩
      rw [dec_str, ← eqv_str]
      exact r2_end rl k rfl (.bl _)
    · have hc' : (SeqAt.shaped d && SeqAt.shaped d') = true := by
        cases d <;> cases d' <;> first | exact hc | exact absurd ⟨_, _, rfl, rfl⟩ hs
      rw [Bool.and_eq_true] at hc'
      exact op_neD hu pins s σ H _ _ v u Q I rx ry ⟨d, d', h1, h2, hc'.1, hc'.2, r2_end rl k rfl (.bl _)⟩
  · cases e
def isNoneD : D → Bool
  | .none => true
  | _ => false
/-! ### < -/
def semLt : Sem2 := fun a b => match a.2, b.2 with
  | .int i, .int j => .ok (.sh, .bool (decide (i < j)))
  | .str x, .str y => .ok (.sh, .bool (decide (x.cps.toList < y.cps.toList)))
  | d, e => if PySem.W.alike d e && decide (min d.depth e.depth ≤ 64) && !isNoneD d then .ok (.sh, .bool (PySem.W.dataLt d e)) else stk
theorem o_lt (hu : X.A.units + 64 < cLine) (hK : c.K = X.K) : OpR X (compareOp .Lt) (r2D c semLt) := by
  intro pins s σ H x y v u Q I rx ry h
  obtain ⟨G, L, ra, rb, r, rl, va, vb, e, k⟩ := h
  obtain ⟨m, d⟩ := ra
  obtain ⟨n, d'⟩ := rb
  unfold semLt at e
  simp only at e
  split at e
  · cases e
    exact op_lt pins s σ H x y v u Q I rx ry ⟨_, _, int_of rl va, int_of rl vb, r2_end rl k rfl (.bl _)⟩
  · cases e
    exact op_lt_str pins s σ H x y v u Q I rx ry ⟨_, _, str_of rl va, str_of rl vb, r2_end rl k rfl (.bl _)⟩
  · split at e
    · rename_i hc
      have e' := Except.ok.inj e
      subst e'
      rw [Bool.and_eq_true, Bool.and_eq_true, decide_eq_true_eq] at hc
      have h1 := va.dp rl (alike_nd hc.1.1).1
      have h2 := vb.dp rl (alike_nd hc.1.1).2
      rw [hK] at h1 h2
      obtain ⟨as, r1⟩ := Dp.reads I _ x v h1 rx
      obtain ⟨bs, r2⟩ := Dp.reads I _ y u h2 ry
      have hn : d ≠ .none := by
        intro z
        subst z
        exact absurd hc.2 (by simp [isNoneD])
      have q := PySem.W.rcLt_alike _ _ X.A s v u as bs r1 r2 hc.1.1 hn (by have := hc.1.2; simp only at this ⊢; omega)
      exact q X.prog X.w X.xe (EP X pins σ Q) ⟨.bl _, H, I, rfl, r2_end rl k rfl (.bl _)⟩
    · cases e
/-! ### is -/
def semIs : Sem2 := fun a b => match a.2, b.2 with
  | .bool p, .bool q => .ok (.sh, .bool (decide (p = q)))
  | d, .none => if noDic d then .ok (.sh, .bool (isNoneD d)) else stk
  | _, _ => stk
def semIsNot : Sem2 := fun a b => match a.2, b.2 with
  | .bool p, .bool q => .ok (.sh, .bool (!decide (p = q)))
  | d, .none => if noDic d then .ok (.sh, .bool (!isNoneD d)) else stk
  | _, _ => stk
theorem is_non {c : Gh} {H : Hp} {v : V} {d : D} (h : Dp c.K H v d) : decide (v = .non) = (isNoneD d) := by
  cases h <;> rfl
theorem o_is : OpR X (compareOp .Is) (r2D c semIs) := by
  intro pins s σ H x y v u Q I rx ry h
  obtain ⟨G, L, ra, rb, r, rl, va, vb, e, k⟩ := h
  obtain ⟨m, d⟩ := ra
  obtain ⟨n, d'⟩ := rb
  unfold semIs at e
  simp only at e
  split at e
  · cases e
    exact op_isBl pins s σ H x y v u Q I rx ry ⟨_, _, bl_of rl va, bl_of rl vb, r2_end rl k rfl (.bl _)⟩
  · split at e
    · rename_i hn
      cases e
      refine op_isN pins s σ H x y v u Q I rx ry ⟨non_of rl vb, ?_⟩
      have h1 := va.dp rl hn
      rw [is_non h1]
      exact r2_end rl k rfl (.bl _)
    · cases e
  · cases e
theorem not_is_non {c : Gh} {H : Hp} {v : V} {d : D} (h : Dp c.K H v d) : (!decide (v = .non)) = (!isNoneD d) := by
  cases h <;> rfl
theorem o_isnot : OpR X (compareOp .IsNot) (r2D c semIsNot) := by
  intro pins s σ H x y v u Q I rx ry h
  obtain ⟨G, L, ra, rb, r, rl, va, vb, e, k⟩ := h
  obtain ⟨m, d⟩ := ra
  obtain ⟨n, d'⟩ := rb
  unfold semIsNot at e
  simp only at e
  split at e
  · cases e
    exact op_notBl pins s σ H x y v u Q I rx ry ⟨_, _, bl_of rl va, bl_of rl vb, r2_end rl k rfl (.bl _)⟩
  · split at e
    · rename_i hn
      cases e
      refine op_notN pins s σ H x y v u Q I rx ry ⟨non_of rl vb, ?_⟩
      have h1 := va.dp rl hn
      rw [not_is_non h1]
      exact r2_end rl k rfl (.bl _)
    · cases e
  · cases e
/-! ### in -/
def subStr (x y : Str) : Bool := !(Builtin.Str.occurrences y x 0 y.length 1).isEmpty
def semInB : MV → MV → M Bool := fun a b => match b.2 with
  | .list ds => if SeqAt.shaped a.2 && SeqAt.shaped (.list ds) then .ok (ds.any fun z => PyData.eqv z a.2) else stk
  | .tuple ds => if SeqAt.shaped a.2 && SeqAt.shaped (.tuple ds) then .ok (ds.any fun z => PyData.eqv z a.2) else stk
  | .str y => match a.2 with
    | .str x => .ok (subStr x y)
    | _ => stk
  | _ => stk
def semIn : Sem2 := fun a b => do
  let t ← semInB a b
  pure (.sh, .bool t)
def semNotIn : Sem2 := fun a b => do
  let t ← semInB a b
  pure (.sh, .bool !t)
theorem in_room {A : Around} {d e : D} (hu : A.units + 65 < cLine) (h : SeqAt.shaped d = true) (n : Nat) : A.units + 1 + min n d.depth < cLine := by
  unfold SeqAt.shaped at h
  rw [Bool.and_eq_true, decide_eq_true_eq] at h
  omega
theorem o_in_core {op : CmpOp} {neg : Bool} (hop : (op = .In ∧ neg = false) ∨ (op = .NotIn ∧ neg = true)) (hu : X.A.units + 65 < cLine) (hK : c.K = X.K) {pins : List (Addr × Obj)} {s : Shared} {σ : L2.St} {H : Hp} {x y : V} {v u : Value} {Q : VK} (I : Inv X pins σ H s) (rx : RelV x v) (ry : RelV y u)
    {G : Hp} {L : List T3} {ra rb : MV} {t : Bool} (rl : Rel c G H L) (va : View c G H ra x) (vb : View c G H rb y) (e : semInB ra rb = .ok t) (q : Q (.bl (if neg then !t else t)) H) : wpAny (model X.prog X.w) X.A (compareOp op v u) (EP X pins σ Q) X.xe s := by
  obtain ⟨m, d⟩ := ra
  obtain ⟨n, d'⟩ := rb
  unfold semInB at e
  simp only at e
  split at e
  · split at e
    · rename_i hc
      cases e
      rw [Bool.and_eq_true] at hc
      have h1 := va.dp rl (shaped_nd hc.1)
      have h2 := vb.dp rl
      rw [hK] at h1 h2
      obtain ⟨as, r1⟩ := Dp.reads I _ x v h1 rx
      obtain ⟨bs, r2⟩ := Dp.reads I _ y u h2 ry
      have hr := in_room (e := d) hu hc.1
      rcases hop with ⟨rfl, rfl⟩ | ⟨rfl, rfl⟩
      · exact SeqAt.in_list_reads r2 r1 (SeqAt.canLay_of_shaped hc.2) (SeqAt.canLay_of_shaped hc.1) (hr _) ⟨.bl _, H, I, rfl, q⟩
      · exact SeqAt.notIn_list_reads r2 r1 (SeqAt.canLay_of_shaped hc.2) (SeqAt.canLay_of_shaped hc.1) (hr _) ⟨.bl _, H, I, rfl, q⟩
    · cases e
  · split at e
    · rename_i hc
      cases e
      rw [Bool.and_eq_true] at hc
      have h1 := va.dp rl (shaped_nd hc.1)
      have h2 := vb.dp rl
      rw [hK] at h1 h2
      obtain ⟨as, r1⟩ := Dp.reads I _ x v h1 rx
      obtain ⟨bs, r2⟩ := Dp.reads I _ y u h2 ry
      have hr := in_room (e := d) hu hc.1
      rcases hop with ⟨rfl, rfl⟩ | ⟨rfl, rfl⟩
      · exact SeqAt.in_tuple_reads r2 r1 (SeqAt.canLay_of_shaped hc.2) (SeqAt.canLay_of_shaped hc.1) (hr _) ⟨.bl _, H, I, rfl, q⟩
      · exact SeqAt.notIn_tuple_reads r2 r1 (SeqAt.canLay_of_shaped hc.2) (SeqAt.canLay_of_shaped hc.1) (hr _) ⟨.bl _, H, I, rfl, q⟩
    · cases e
  · split at e
    · cases e
      rcases hop with ⟨rfl, rfl⟩ | ⟨rfl, rfl⟩
      · exact op_in_str pins s σ H x y v u Q I rx ry ⟨_, _, str_of rl va, str_of rl vb, q⟩
      · exact op_notin_str pins s σ H x y v u Q I rx ry ⟨_, _, str_of rl va, str_of rl vb, q⟩
    · cases e
  · cases e
theorem o_in (hu : X.A.units + 65 < cLine) (hK : c.K = X.K) : OpR X (compareOp .In) (r2D c semIn) := by
  intro pins s σ H x y v u Q I rx ry h
  obtain ⟨G, L, ra, rb, r, rl, va, vb, e, k⟩ := h
  obtain ⟨t, e1, e⟩ := bind_ok e
  cases e
  exact o_in_core (.inl ⟨rfl, rfl⟩) hu hK I rx ry rl va vb e1 (r2_end rl k rfl (.bl _))
theorem o_notin (hu : X.A.units + 65 < cLine) (hK : c.K = X.K) : OpR X (compareOp .NotIn) (r2D c semNotIn) := by
  intro pins s σ H x y v u Q I rx ry h
  obtain ⟨G, L, ra, rb, r, rl, va, vb, e, k⟩ := h
  obtain ⟨t, e1, e⟩ := bind_ok e
  cases e
  exact o_in_core (.inr ⟨rfl, rfl⟩) hu hK I rx ry rl va vb e1 (r2_end rl k rfl (.bl _))
/-! ### - -/
def fUn (g : MV → M MV) (f : FE) : FE := fun S => do
  let (r, S1) ← f S
  let z ← g r
  pure (z, S1)
def semNeg : MV → M MV := fun a => match a.2 with
  | .int i => .ok (.sh, .int (-i))
  | _ => stk
theorem de_neg {a : Expr} {f : FE} {pos : Pos} (ha : PE X a (tE c f)) : PE X (.UnaryOp .USub a pos) (tE c (fUn semNeg f)) := by
  refine pemono (pe_un un_neg ha) fun σ H Q h => ?_
  obtain ⟨G, S, R, ok, r, S', e, k⟩ := h
  obtain ⟨⟨r1, S1⟩, e1, e⟩ := bind_ok e
  obtain ⟨z, e2, e⟩ := bind_ok e
  cases e
  refine ⟨G, S, R, ok, r1, _, e1, fun G' v H' s ok' => ?_⟩
  obtain ⟨m, d⟩ := r1
  unfold semNeg at e2
  simp only at e2
  split at e2
  · cases e2
    have hv := ok'.rel.view (m := m) (v := v) List.mem_cons_self
    exact ⟨_, int_of ok'.rel hv, k G' _ H' s ⟨ok'.cov, ok'.rel.drop.put_sh (.int _)⟩⟩
  · cases e2
end
end O
set_option maxRecDepth 100000
namespace O
open PySem PySem.Spec PyProof.Rows L2

/-! ### given to all at once -/
def giveR : MV → M MV
  | (m, d) => if m.gives then .ok (.sh, d) else if flatD d then .ok (.sh, d) else stk
def fSh (f : FE) : FE := fun S => do
  let (r, S1) ← f S
  let z ← giveR r
  pure (z, S1)
theorem Rel.give {c : Gh} {G H : Hp} {r z : MV} {v : V} {L : List T3} (rl : Rel c G H ((r.1, v, r.2) :: L)) (h : giveR r = .ok z) : z = (.sh, r.2) ∧ ∃ G', Sub G G' ∧ Rel c G' H ((.sh, v, r.2) :: L) := by
  obtain ⟨m, d⟩ := r
  unfold giveR at h
  simp only at h
  split at h
  · rename_i hm
    cases h
    exact ⟨rfl, rl.share hm⟩
  · split at h
    · rename_i hm hf
      cases h
      refine ⟨rfl, G, Sub.refl G, rl.drop.put_sh ?_⟩
      have h2 := (rl.view (m := m) (v := v) (d := d) List.mem_cons_self)
      obtain ⟨F, h2⟩ := h2
      cases m with
      | sh => exact h2.2
      | bo => exact Dq.flat hf h2.2
      | bx =>
        obtain ⟨_, _, _, _, _, _, _, hd, _⟩ := h2
        simp only at hd
        subst hd
        cases hf
      | dk =>
        obtain ⟨_, _, _, _, hd, _⟩ := h2
        simp only at hd
        subst hd
        cases hf
      | fn =>
        obtain ⟨_, _, _, _, hd, _⟩ := h2
        simp only at hd
        subst hd
        cases hf
      | ow m =>
        obtain ⟨_, a, vs, ds, Fs, _, hd, _⟩ := h2
        simp only at hd
        subst hd
        cases hf
    · cases h
section
variable {X : Cx} {c : Gh}
theorem de_sh {e : Expr} {f : FE} (h : PE X e (tE c f)) : PE X e (tE c (fSh f)) := by
  refine pemono h fun σ H Q q => ?_
  obtain ⟨G, S, R, ok, z, S', e, k⟩ := q
  obtain ⟨⟨r, S1⟩, e1, e⟩ := bind_ok e
  obtain ⟨z', e2, e⟩ := bind_ok e
  cases e
  refine ⟨G, S, R, ok, r, _, e1, fun G' v H' s ok' => ?_⟩
  obtain ⟨hz, G2, s2, rl2⟩ := Rel.give ok'.rel e2
  subst hz
  exact k G2 v H' (s.trans s2) ⟨ok'.cov, rl2⟩

/-! ### arguments -/
abbrev FA := SS → M (List Tk × SS)
def tkRs : List Tk → List V → List T3
  | t :: ts, v :: vs => tkR t v ++ tkRs ts vs
  | _, _ => []
inductive TkOks (σ : L2.St) : List Tk → List V → Prop
  | nil : TkOks σ [] []
  | cons {t ts v vs} : tkOk σ t v → TkOks σ ts vs → TkOks σ (t :: ts) (v :: vs)
def tA (c : Gh) (f : FA) : TA := fun σ H Q => ∃ G S R, SOk c G H σ S R ∧ ∃ ts S', f S = .ok (ts, S') ∧ ∀ G' vs H', Sub G G' → TkOks σ ts vs → SOk c G' H' σ S' (tkRs ts vs ++ R) → Q vs H'
def aNil : FA := fun S => .ok ([], S)
def aCons (o : FO) (f : FA) : FA := fun S => do
  let (t, S1) ← o S
  let (ts, S2) ← f S1
  pure (t :: ts, S2)
theorem da_nil : PA X [] (tA c aNil) := ⟨fun pos pins s σ H Q I h => by
  obtain ⟨G, S, R, ok, ts, S', e, k⟩ := h
  cases e
  exact pa_nil.run pos pins s σ H Q I (k G [] H (Sub.refl G) .nil ok)⟩
theorem da_cons {e : Expr} {es : List Expr} {o : FO} {f : FA} (ha : PE X e (tO c o)) (hr : PA X es (tA c f)) (hs : starEach (e :: es) X.env = (false, eval e X.env) :: starEach es X.env := by rfl) : PA X (e :: es) (tA c (aCons o f)) := ⟨fun pos pins s σ H Q I h => by
  obtain ⟨G, S, R, ok, ts, S', e, k⟩ := h
  obtain ⟨⟨t, S1⟩, e1, e⟩ := bind_ok e
  obtain ⟨⟨ts', S2⟩, e2, e⟩ := bind_ok e
  cases e
  refine (pa_cons ha hr hs).run pos pins s σ H Q I ⟨G, S, R, ok, t, S1, e1, fun G1 v H1 s1 h1 ok1 => ?_⟩
  refine ⟨G1, S1, _, ok1, ts', _, e2, fun G2 vs H2 s2 h2 ok2 => ?_⟩
  refine k G2 (v :: vs) H2 (s1.trans s2) (.cons h1 h2) ⟨ok2.cov, ok2.rel.perm ?_⟩
  refine List.Perm.append_right _ ?_
  show (tkRs ts' vs ++ (tkR t v ++ R)).Perm ((tkR t v ++ tkRs ts' vs) ++ R)
  rw [← List.append_assoc]
  exact List.perm_append_comm.append_right R⟩
inductive Views (c : Gh) (G H : Hp) : List MV → List V → Prop
  | nil : Views c G H [] []
  | cons {r rs v vs} : View c G H r v → Views c G H rs vs → Views c G H (r :: rs) (v :: vs)
def tkGets : List Tk → SS → M (List MV)
  | [], _ => .ok []
  | t :: ts, S => do
    let r ← tkGet t S
    let rs ← tkGets ts S
    pure (r :: rs)
theorem tks_views {c : Gh} {G H : Hp} {σ : L2.St} {S : SS} {R' : List T3} (ok : SOk c G H σ S R') : ∀ {ts : List Tk} {vs : List V} {rs : List MV}, (∀ x ∈ tkRs ts vs, x ∈ R') → TkOks σ ts vs → tkGets ts S = .ok rs → Views c G H rs vs := by
  intro ts
  induction ts with
  | nil => intro vs rs _ h e; cases h; cases e; exact .nil
  | cons t ts ih =>
    intro vs rs hR h e
    cases h with
    | cons h1 h2 =>
      obtain ⟨r, e1, e⟩ := bind_ok e
      obtain ⟨rs', e2, e⟩ := bind_ok e
      cases e
      exact .cons (tk_view (R := R') ok (fun x hx => hR x (List.mem_append_left _ hx)) h1 e1) (ih (fun x hx => hR x (List.mem_append_right _ hx)) h2 e2)
abbrev SemN := List MV → M MV
def rND (c : Gh) (sem : SemN) : List V → Hp → VK → Prop := fun vs H Q => ∃ G L rs r, Rel c G H L ∧ Views c G H rs vs ∧ sem rs = .ok r ∧ ∀ G' v H', Sub G G' → Rel c G' H' ((r.1, v, r.2) :: L) → Q v H'
def fN (sem : SemN) (f : FA) : FE := fun S => do
  let (ts, S1) ← f S
  let rs ← tkGets ts S1
  let r ← sem rs
  pure (r, S1)
theorem n_read {c : Gh} {sem : SemN} {f : FA} {σ : L2.St} {H : Hp} {Q : VK} (h : tE c (fN sem f) σ H Q) : tA c f σ H fun vs H1 => rND c sem vs H1 Q := by
  obtain ⟨G, S, R, ok, r, S', e, k⟩ := h
  obtain ⟨⟨ts, S1⟩, e1, e⟩ := bind_ok e
  obtain ⟨rs, e2, e⟩ := bind_ok e
  obtain ⟨r', e3, e⟩ := bind_ok e
  cases e
  refine ⟨G, S, R, ok, ts, _, e1, fun G1 vs H1 s1 h1 ok1 => ?_⟩
  refine ⟨G1, _, rs, r, ok1.rel, tks_views ok1 (fun x hx => List.mem_append_left _ hx) h1 e2, e3, fun G' v H' s rl => ?_⟩
  refine k G' v H' (s1.trans s) ⟨ok1.cov, rl.sublist (List.Sublist.cons_cons _ (List.Sublist.append_right (List.sublist_append_right _ _) _))⟩

/-! ### displays -/
def allSh : List MV → M (List D)
  | [] => .ok []
  | (.sh, d) :: rs => do
    let ds ← allSh rs
    pure (d :: ds)
  | _ => stk
theorem views_sh {c : Gh} {G H : Hp} : ∀ {rs : List MV} {vs : List V} {ds : List D}, Views c G H rs vs → allSh rs = .ok ds → DqAll c.K G vs ds := by
  intro rs
  induction rs with
  | nil => intro vs ds h e; cases h; cases e; exact .nil
  | cons r rs ih =>
    intro vs ds h e
    obtain ⟨m, d⟩ := r
    cases h with
    | cons h1 h2 =>
      cases m with
      | sh =>
        obtain ⟨ds', e1, e⟩ := bind_ok e
        cases e
        exact .cons (sh_dq h1) (ih h2 e1)
      | bo => cases e
      | bx => cases e
      | dk => cases e
      | fn => cases e
      | ow m => cases e
def semTup : SemN := fun rs => do
  let ds ← allSh rs
  if ds.length ≤ sizeLine then pure (.sh, .tuple ds) else stk
def semLst : SemN := fun rs => do
  let ds ← allSh rs
  if ds.length ≤ sizeLine then pure (.ow .sh, .list ds) else stk
theorem de_tup {es : List Expr} {f : FA} {x1 pos} (h : PA X es (tA c f)) : PE X (.Tuple es x1 pos) (tE c (fN semTup f)) := by
  refine pemono (pe_tupF h) fun σ H Q q => ?_
  obtain ⟨G, S, R, ok, ts, S', e, k⟩ := n_read q
  refine ⟨G, S, R, ok, ts, S', e, fun G' vs H' s h1 ok' => ?_⟩
  obtain ⟨G2, L, rs, r, rl, hv, e2, k2⟩ := k G' vs H' s h1 ok'
  obtain ⟨ds, e3, e2⟩ := bind_ok e2
  split at e2
  · rename_i hl
    cases e2
    have hd := views_sh hv e3
    exact ⟨by rw [hd.length]; exact hl, new_tup_end rl hd k2⟩
  · cases e2
theorem de_lst {es : List Expr} {f : FA} {pos} (h : PA X es (tA c f)) : PE X (.List es pos) (tE c (fN semLst f)) := by
  refine pemono (pe_lst h) fun σ H Q q => ?_
  obtain ⟨G, S, R, ok, ts, S', e, k⟩ := n_read q
  refine ⟨G, S, R, ok, ts, S', e, fun G' vs H' s h1 ok' => ?_⟩
  obtain ⟨G2, L, rs, r, rl, hv, e2, k2⟩ := k G' vs H' s h1 ok'
  obtain ⟨ds, e3, e2⟩ := bind_ok e2
  split at e2
  · rename_i hl
    cases e2
    have hd := views_sh hv e3
    exact ⟨by rw [hd.length]; exact hl, new_lst_end rl hd k2⟩
  · cases e2

/-! ### calls of built-ins -/
theorem de_callB {id : String} {sem : SemN} {x : Str} {e : Expr} {es : List Expr} {f : FA} {p pos : Pos} (hc : CallR X (.builtin id) (rND c sem)) (hg : Gl X x) (hm : X.mg x = none) (hv : bootBuiltins x = some (.builtin id)) (ha : PA X (e :: es) (tA c f)) (hn : x ≠ "__name__" := by decide) (hdb : (x == ("__debug__" : Str)) = false := by decide)
    (he : starEach (e :: es) X.env = (false, eval e X.env) :: starEach es X.env := by rfl) (hpl : (backTo pos (starEach es X.env)).any (·.1) = false := by rfl) : PE X (.Call (.Name x p) (e :: es) [] pos) (tE c (fN sem f)) :=
  pemono (pe_callB hc hg hm hv ha hn hdb he hpl) fun _ _ _ h => n_read h
theorem de_callTy {T : String} {sem : SemN} {x : Str} {e : Expr} {es : List Expr} {f : FA} {p pos : Pos} (hc : CallR X (.type T) (rND c sem)) (hg : Gl X x) (hm : X.mg x = none) (hv : bootBuiltins x = some (.type T)) (ha : PA X (e :: es) (tA c f)) (hn : x ≠ "__name__" := by decide) (hdb : (x == ("__debug__" : Str)) = false := by decide)
    (he : starEach (e :: es) X.env = (false, eval e X.env) :: starEach es X.env := by rfl) (hpl : (backTo pos (starEach es X.env)).any (·.1) = false := by rfl) : PE X (.Call (.Name x p) (e :: es) [] pos) (tE c (fN sem f)) :=
  pemono (pe_callTy hc hg hm hv ha hn hdb he hpl) fun _ _ _ h => n_read h

/-! len -/
def semLen : SemN := fun rs => match rs with
  | [r] => match r.2 with
    | .list ds => .ok (.sh, .int ds.length)
    | .tuple ds => .ok (.sh, .int ds.length)
    | .str x => if x.length ≤ sizeLine then .ok (.sh, .int x.length) else stk
    | _ => stk
  | _ => stk
theorem dpAll_len {K : PySem.W.Frag} {G : Hp} : ∀ {vs : List V} {ds : List D}, DpAll K G vs ds → vs.length = ds.length
  | _, _, .nil => rfl
  | _, _, .cons _ t => by rw [List.length_cons, List.length_cons, dpAll_len t]
theorem views1 {c : Gh} {G H : Hp} {r : MV} {vs : List V} (h : Views c G H [r] vs) : ∃ v, vs = [v] ∧ View c G H r v := by
  cases h with
  | cons a t => cases t; exact ⟨_, rfl, a⟩
theorem views2 {c : Gh} {G H : Hp} {r q : MV} {vs : List V} (h : Views c G H [r, q] vs) : ∃ v w, vs = [v, w] ∧ View c G H r v ∧ View c G H q w := by
  cases h with
  | cons a t =>
    cases t with
    | cons b t => cases t; exact ⟨_, _, rfl, a, b⟩
theorem c_len (hK : c.K = X.K) : CallR X (.builtin "len") (rND c semLen) := by
  intro pins s σ H xs us Q I rv h
  obtain ⟨G, L, rs, r, rl, hv, e, k⟩ := h
  unfold semLen at e
  split at e
  · rename_i r0
    obtain ⟨v, rfl, hw⟩ := views1 hv
    have hd : noDic r0.2 = true → Dp X.K H v r0.2 := fun n => by
      have hd := hw.dp rl n
      rwa [hK] at hd
    obtain ⟨m, d⟩ := r0
    simp only at e hd
    split at e
    · cases e
      cases hd rfl with
      | lst a b => exact call_len_seq pins s σ H _ us Q I rv ⟨_, _, rfl, .inl a, by rw [dpAll_len b]; exact r2_end rl k rfl (.int _)⟩
    · cases e
      cases hd rfl with
      | tup a b => exact call_len_seq pins s σ H _ us Q I rv ⟨_, _, rfl, .inr a, by rw [dpAll_len b]; exact r2_end rl k rfl (.int _)⟩
    · split at e
      · rename_i hl
        cases e
        cases hd rfl
        exact call_len_str pins s σ H _ us Q I rv ⟨_, rfl, hl, r2_end rl k rfl (.int _)⟩
      · cases e
    · cases e
  · cases e
/-! isinstance(x, T), T a name -/
inductive PT5 where
  | int | bool | str | tuple | list
def PT5.name : PT5 → String
  | .int => "int" | .bool => "bool" | .str => "str" | .tuple => "tuple" | .list => "list"
def PT5.is : PT5 → D → Bool
  | .int, d => match d with | .int _ => true | .bool _ => true | _ => false
  | .bool, d => match d with | .bool _ => true | _ => false
  | .str, d => match d with | .str _ => true | _ => false
  | .tuple, d => match d with | .tuple _ => true | _ => false
  | .list, d => match d with | .list _ => true | _ => false
def rIsT (K : PySem.W.Frag) (T : PT5) : List V → Hp → VK → Prop := fun vs H Q => ∃ v d, vs = [v, .ty T.name] ∧ Dp K H v d ∧ Q (.bl (T.is d)) H
theorem c_isT (T : PT5) : CallR X (.builtin "isinstance") (rIsT X.K T) := by
  intro pins s σ H xs us Q I rv h
  obtain ⟨v, d, rfl, hd, q⟩ := h
  cases rv with
  | cons r1 rv =>
    cases rv with
    | cons r2 rv =>
      cases rv
      cases r2
      obtain ⟨as, rd⟩ := Dp.reads I d v _ hd r1
      have fin : ∀ (b : Bool), b = T.is d → ∀ tk, s.toks ≤ tk → EP X pins σ Q (.bool b) { s with toks := tk } := fun b eb tk htk => by
        subst eb
        exact ⟨.bl _, H, I.tok tk, rfl, q⟩
      cases T with
      | int => exact PySem.W.isinstance_int_data rd (fin _ (by cases d <;> rfl))
      | bool => exact PySem.W.isinstance_bool_data rd (fin _ (by cases d <;> rfl))
      | str => exact PySem.W.isinstance_str_data rd (fin _ (by cases d <;> rfl))
      | tuple => exact PySem.W.isinstance_tuple_data rd (fin _ (by cases d <;> rfl))
      | list => exact PySem.W.isinstance_list_data rd (fin _ (by cases d <;> rfl))
/-- a test of the kind, or another reading that gives no object -/
def fO1 (g : MV → M MV) (o : FO) : FE := fun S => do
  let (t, S1) ← o S
  let r ← tkGet t S1
  let z ← g r
  pure (z, S1)
def semIsT (T : PT5) : MV → M MV := fun r => if noDic r.2 then .ok (.sh, .bool (T.is r.2)) else stk
theorem de_isT {e : Expr} {x : Str} {o : FO} {p p2 pos : Pos} (T : PT5) (hK : c.K = X.K) (hg : Gl X "isinstance") (hm : X.mg "isinstance" = none) (hg2 : Gl X x) (hm2 : X.mg x = none) (hv2 : bootBuiltins x = some (.type T.name)) (ha : PE X e (tO c o))
    (hv : bootBuiltins "isinstance" = some (.builtin "isinstance") := by decide +kernel) (hn2 : x ≠ "__name__" := by decide) (hdb2 : (x == ("__debug__" : Str)) = false := by decide)
    (he : starEach [e, .Name x p2] X.env = (false, eval e X.env) :: starEach [.Name x p2] X.env := by rfl) (he2 : starEach [.Name x p2] X.env = (false, eval (.Name x p2) X.env) :: starEach [] X.env := by rfl) (hpl : (backTo pos (starEach [.Name x p2] X.env)).any (·.1) = false := by rfl) :
    PE X (.Call (.Name "isinstance" p) [e, .Name x p2] [] pos) (tE c (fO1 (semIsT T) o)) := by
  refine pemono (pe_callB (c_isT T) hg hm hv (pa_cons ha (pa_cons (pe_bltn hg2 hm2 hv2 (v := .ty T.name) rfl hn2 hdb2) pa_nil he2) he) (by decide) (by decide) he hpl) fun σ H Q h => ?_
  obtain ⟨G, S, R, ok, r, S', e, k⟩ := h
  obtain ⟨⟨t, S1⟩, e1, e⟩ := bind_ok e
  obtain ⟨r1, e2, e⟩ := bind_ok e
  obtain ⟨r2, e3, e⟩ := bind_ok e
  unfold semIsT at e3
  split at e3
  rotate_left
  · cases e3
  rename_i hn
  cases e3
  cases e
  refine ⟨G, S, R, ok, t, _, e1, fun G1 v H1 s1 h1 ok1 => ?_⟩
  refine ⟨v, r1.2, rfl, ?_, ?_⟩
  · rw [← hK]
    exact (tk_view (R := R) ok1 (fun t ht => List.mem_append_left _ ht) h1 e2).dp ok1.rel hn
  · exact k G1 _ H1 s1 ⟨ok1.cov, (ok1.rel.sublist (List.Sublist.append_right (List.sublist_append_right _ _) _)).put_sh (.bl _)⟩
/-! int(i), str(i), abs(i) -/
def semInt1 : SemN := fun rs => match rs with
  | [r] => match r.2 with
    | .int i => .ok (.sh, .int i)
    | .bool b => .ok (.sh, .int (if b then 1 else 0))
    | _ => stk
  | _ => stk
theorem c_int : CallR X (.type "int") (rND c semInt1) := by
  intro pins s σ H xs us Q I rv h
  obtain ⟨G, L, rs, r, rl, hv, e, k⟩ := h
  unfold semInt1 at e
  split at e
  · rename_i r0
    obtain ⟨v, rfl, hw⟩ := views1 hv
    obtain ⟨m, d⟩ := r0
    simp only at e
    split at e
    · cases e
      exact call_int1 pins s σ H _ us Q I rv (.inl ⟨_, by rw [int_of rl hw], r2_end rl k rfl (.int _)⟩)
    · cases e
      exact call_int1 pins s σ H _ us Q I rv (.inr ⟨_, by rw [bl_of rl hw], r2_end rl k rfl (.int _)⟩)
    · cases e
  · cases e
def semStr1 : SemN := fun rs => match rs with
  | [r] => match r.2 with
    | .int i => if i.natAbs.log2 < 1920 then .ok (.sh, .str (toString i)) else stk
    | _ => stk
  | _ => stk
theorem c_str : CallR X (.type "str") (rND c semStr1) := by
  intro pins s σ H xs us Q I rv h
  obtain ⟨G, L, rs, r, rl, hv, e, k⟩ := h
  unfold semStr1 at e
  split at e
  · rename_i r0
    obtain ⟨v, rfl, hw⟩ := views1 hv
    obtain ⟨m, d⟩ := r0
    simp only at e
    split at e
    · split at e
      · rename_i hl
        cases e
        exact call_str_int pins s σ H _ us Q I rv ⟨_, by rw [int_of rl hw], hl, r2_end rl k rfl (.str _)⟩
      · cases e
    · cases e
  · cases e
def semAbs : SemN := fun rs => match rs with
  | [r] => match r.2 with
    | .int i => .ok (.sh, .int (if i < 0 then -i else i))
    | _ => stk
  | _ => stk
theorem c_abs : CallR X (.builtin "abs") (rND c semAbs) := by
  intro pins s σ H xs us Q I rv h
  obtain ⟨G, L, rs, r, rl, hv, e, k⟩ := h
  unfold semAbs at e
  split at e
  · rename_i r0
    obtain ⟨v, rfl, hw⟩ := views1 hv
    obtain ⟨m, d⟩ := r0
    simp only at e
    split at e
    · cases e
      exact call_abs pins s σ H _ us Q I rv ⟨_, by rw [int_of rl hw], r2_end rl k rfl (.int _)⟩
    · cases e
  · cases e
/-! all, any, sum of a list; list(x), tuple(x) -/
def boolsOf : List D → M (List Bool)
  | [] => .ok []
  | .bool b :: ds => do
    let bs ← boolsOf ds
    pure (b :: bs)
  | _ => stk
def intsOf : List D → M (List Int)
  | [] => .ok []
  | .int b :: ds => do
    let bs ← intsOf ds
    pure (b :: bs)
  | _ => stk
theorem bools_vals {K : PySem.W.Frag} {G : Hp} : ∀ {ds : List D} {vs : List V} {bs : List Bool}, DqAll K G vs ds → boolsOf ds = .ok bs → vs = bs.map V.bl := by
  intro ds
  induction ds with
  | nil => intro vs bs h e; cases h; cases e; rfl
  | cons d ds ih =>
    intro vs bs h e
    cases h with
    | cons h1 h2 =>
      cases d with
      | bool b =>
        obtain ⟨bs', e1, e⟩ := bind_ok e
        cases e
        cases h1
        rw [ih h2 e1]; rfl
      | _ => cases e
theorem ints_vals {K : PySem.W.Frag} {G : Hp} : ∀ {ds : List D} {vs : List V} {bs : List Int}, DqAll K G vs ds → intsOf ds = .ok bs → vs = bs.map V.int := by
  intro ds
  induction ds with
  | nil => intro vs bs h e; cases h; cases e; rfl
  | cons d ds ih =>
    intro vs bs h e
    cases h with
    | cons h1 h2 =>
      cases d with
      | int b =>
        obtain ⟨bs', e1, e⟩ := bind_ok e
        cases e
        cases h1
        rw [ih h2 e1]; rfl
      | _ => cases e
/-- the items, if it is a list -/
def kidsL (r : MV) : M (List D) := match r.2 with
  | .list _ => kids r
  | _ => stk
theorem kidsL_ok {c : Gh} {G H : Hp} {L : List T3} (rl : Rel c G H L) {r : MV} {v : V} {ds : List D} (h : View c G H r v) (k : kidsL r = .ok ds) : ∃ a vs, v = .ref a ∧ H a = some (.lst vs) ∧ DqAll c.K G vs ds := by
  obtain ⟨m, d⟩ := r
  cases d with
  | list es => exact kids_list rl h k
  | _ => cases k
def semAll : SemN := fun rs => match rs with
  | [r] => do
    let ds ← kidsL r
    let bs ← boolsOf ds
    pure (.sh, .bool (bs.all id))
  | _ => stk
def semAny : SemN := fun rs => match rs with
  | [r] => do
    let ds ← kidsL r
    let bs ← boolsOf ds
    pure (.sh, .bool (bs.any id))
  | _ => stk
def semSum : SemN := fun rs => match rs with
  | [r] => do
    let ds ← kidsL r
    let bs ← intsOf ds
    pure (.sh, .int bs.sum)
  | _ => stk
theorem c_all (hc : X.calm = true) : CallR X (.builtin "all") (rND c semAll) := by
  intro pins s σ H xs us Q I rv h
  obtain ⟨G, L, rs, r, rl, hv, e, k⟩ := h
  unfold semAll at e
  split at e
  · obtain ⟨v, rfl, hw⟩ := views1 hv
    obtain ⟨ds, e1, e⟩ := bind_ok e
    obtain ⟨bs, e2, e⟩ := bind_ok e
    cases e
    obtain ⟨a, vs, rfl, h1, h2⟩ := kidsL_ok rl hw e1
    rw [bools_vals h2 e2] at h1
    exact cr_all hc pins s σ H _ us Q I rv ⟨a, bs, rfl, .inl (.inl h1), r2_end rl k rfl (.bl _)⟩
  · cases e
theorem c_any (hc : X.calm = true) : CallR X (.builtin "any") (rND c semAny) := by
  intro pins s σ H xs us Q I rv h
  obtain ⟨G, L, rs, r, rl, hv, e, k⟩ := h
  unfold semAny at e
  split at e
  · obtain ⟨v, rfl, hw⟩ := views1 hv
    obtain ⟨ds, e1, e⟩ := bind_ok e
    obtain ⟨bs, e2, e⟩ := bind_ok e
    cases e
    obtain ⟨a, vs, rfl, h1, h2⟩ := kidsL_ok rl hw e1
    rw [bools_vals h2 e2] at h1
    exact cr_any hc pins s σ H _ us Q I rv ⟨a, bs, rfl, .inl (.inl h1), r2_end rl k rfl (.bl _)⟩
  · cases e
theorem c_sum (hc : X.calm = true) : CallR X (.builtin "sum") (rND c semSum) := by
  intro pins s σ H xs us Q I rv h
  obtain ⟨G, L, rs, r, rl, hv, e, k⟩ := h
  unfold semSum at e
  split at e
  · obtain ⟨v, rfl, hw⟩ := views1 hv
    obtain ⟨ds, e1, e⟩ := bind_ok e
    obtain ⟨bs, e2, e⟩ := bind_ok e
    cases e
    obtain ⟨a, vs, rfl, h1, h2⟩ := kidsL_ok rl hw e1
    rw [ints_vals h2 e2] at h1
    exact cr_sum hc pins s σ H _ us Q I rv ⟨a, bs, rfl, .inl (.inl h1), r2_end rl k rfl (.int _)⟩
  · cases e
def semListOf : SemN := fun rs => match rs with
  | [r] => do
    let ds ← kids r
    pure (.ow .sh, .list ds)
  | _ => stk
def semTupOf : SemN := fun rs => match rs with
  | [(.sh, .tuple ds)] => .ok (.sh, .tuple ds)
  | [r] => do
    let ds ← kidsL r
    pure (.sh, .tuple ds)
  | _ => stk
theorem c_listOf (hK : c.K = X.K) : CallR X (.type "list") (rND c semListOf) := by
  intro pins s σ H xs us Q I rv h
  obtain ⟨G, L, rs, r, rl, hv, e, k⟩ := h
  unfold semListOf at e
  split at e
  · obtain ⟨v, rfl, hw⟩ := views1 hv
    obtain ⟨ds, e1, e⟩ := bind_ok e
    cases e
    obtain ⟨a, vs, rfl, h1, h2⟩ := hw.kids rl e1
    refine call_list_of pins s σ H _ us Q I rv ⟨a, vs, rfl, ?_, new_lst_end rl h2 k⟩
    rcases h1 with ⟨_, z⟩ | ⟨_, z⟩
    · exact .inl (.inl (.inl z))
    · rw [← hK]; exact .inr z
  · cases e
theorem c_tupOf (hK : c.K = X.K) : CallR X (.type "tuple") (rND c semTupOf) := by
  intro pins s σ H xs us Q I rv h
  obtain ⟨G, L, rs, r, rl, hv, e, k⟩ := h
  unfold semTupOf at e
  split at e
  · cases e
    obtain ⟨v, rfl, hw⟩ := views1 hv
    have hd := sh_dq hw
    cases hd with
    | tup a b f => exact call_tuple_of pins s σ H _ us Q I rv ⟨_, _, rfl, .inr ⟨by rw [← hK]; exact SqT.sub rl.sub a, r2_end rl k rfl (.tup a b f)⟩⟩
  · obtain ⟨v, rfl, hw⟩ := views1 hv
    obtain ⟨ds, e1, e⟩ := bind_ok e
    cases e
    obtain ⟨a, vs, rfl, h1, h2⟩ := kidsL_ok rl hw e1
    exact call_tuple_ofF pins s σ H _ us Q I rv ⟨a, vs, rfl, .inl (.inl h1), new_tup_end rl h2 k⟩
  · cases e
end
end O
set_option maxRecDepth 100000
namespace O
open PySem PySem.Spec PyProof.Rows L2

/-! ### statements -/
inductive Fl where
  | nx | bk | ct
  | rt (r : MV)
abbrev FS := SS → M (Fl × SS)
/-- the slots P are as they were -/
def Prot (P : List Nat) (σ σ' : L2.St) : Prop := σ'.length = σ.length ∧ ∀ i ∈ P, σ'[i]? = σ[i]?
theorem Prot.refl {P : List Nat} (σ : L2.St) : Prot P σ σ := ⟨rfl, fun _ _ => rfl⟩
theorem Prot.trans {P : List Nat} {a b c : L2.St} (h : Prot P a b) (k : Prot P b c) : Prot P a c := ⟨k.1.trans h.1, fun i hi => (k.2 i hi).trans (h.2 i hi)⟩
def EndD (c : Gh) (P : List Nat) (Dn : Ends) (G0 : Hp) (σ0 : L2.St) (R : List T3) (S' : SS) : Fl → Prop
  | .nx => ∀ G' σ' H', Sub G0 G' → Prot P σ0 σ' → SOk c G' H' σ' S' R → Dn.nx σ' H'
  | .bk => ∀ G' σ' H', Sub G0 G' → Prot P σ0 σ' → SOk c G' H' σ' S' R → Dn.bk σ' H'
  | .ct => ∀ G' σ' H', Sub G0 G' → Prot P σ0 σ' → SOk c G' H' σ' S' R → Dn.ct σ' H'
  | .rt r => ∀ G' v σ' H', Sub G0 G' → Prot P σ0 σ' → SOk c G' H' σ' S' ((r.1, v, r.2) :: R) → Dn.rt v H'
def tS (c : Gh) (P : List Nat) (f : FS) : TS := fun Dn σ H => ∃ G S R, SOk c G H σ S R ∧ ∃ fl S', f S = .ok (fl, S') ∧ EndD c P Dn G σ R S' fl
theorem EndD.mono {c : Gh} {P : List Nat} {Dn : Ends} {G0 G1 : Hp} {σ0 σ1 : L2.St} {R : List T3} {S' : SS} {fl : Fl} (h : EndD c P Dn G0 σ0 R S' fl) (s : Sub G0 G1) (p : Prot P σ0 σ1) : EndD c P Dn G1 σ1 R S' fl := by
  cases fl with
  | nx => exact fun G' σ' H' a b d => h G' σ' H' (s.trans a) (p.trans b) d
  | bk => exact fun G' σ' H' a b d => h G' σ' H' (s.trans a) (p.trans b) d
  | ct => exact fun G' σ' H' a b d => h G' σ' H' (s.trans a) (p.trans b) d
  | rt r => exact fun G' v σ' H' a b d => h G' v σ' H' (s.trans a) (p.trans b) d
theorem psmono {X : Cx} {st : Stmt} {t t' : TS} (h : PS X st t) (k : ∀ D σ H, t' D σ H → t D σ H) : PS X st t' := ⟨fun pins s σ H D I q => h.run pins s σ H D I (k D σ H q)⟩
theorem pssmono {X : Cx} {st : List Stmt} {t t' : TS} (h : PSs X st t) (k : ∀ D σ H, t' D σ H → t D σ H) : PSs X st t' := ⟨fun pins s σ H D I q => h.run pins s σ H D I (k D σ H q)⟩
def sNil : FS := fun S => .ok (.nx, S)
def sSeq (f g : FS) : FS := fun S => do
  let (fl, S1) ← f S
  match fl with
  | .nx => g S1
  | .bk => .ok (.bk, S1)
  | .ct => .ok (.ct, S1)
  | .rt r => .ok (.rt r, S1)
def sRet (f : FE) : FS := fun S => do
  let (r, S1) ← f S
  pure (.rt r, S1)
def sRetN : FS := fun S => .ok (.rt (.sh, .none), S)
def sIf (t : FT) (f g : FS) : FS := fun S => do
  let (b, S1) ← t S
  if b then f S1 else g S1
def sDrop (f : FE) : FS := fun S => do
  let (_, S1) ← f S
  pure (.nx, S1)
def sBk : FS := fun S => .ok (.bk, S)
def sCt : FS := fun S => .ok (.ct, S)
section
variable {X : Cx} {c : Gh} {P : List Nat} {pos : Pos}
theorem ds_nil : PSs X [] (tS c P sNil) := pssmono pss_nil fun D σ H h => by
  obtain ⟨G, S, R, ok, fl, S', e, k⟩ := h
  cases e
  exact k G σ H (Sub.refl G) (Prot.refl σ) ok
theorem seq_read {f g : FS} {Dn : Ends} {σ : L2.St} {H : Hp} (h : tS c P (sSeq f g) Dn σ H) : tSeq (tS c P f) (tS c P g) Dn σ H := by
  obtain ⟨G, S, R, ok, fl, S', e, k⟩ := h
  obtain ⟨⟨fl1, S1⟩, e1, e⟩ := bind_ok e
  refine ⟨G, S, R, ok, fl1, S1, e1, ?_⟩
  cases fl1 with
  | nx => exact fun G' σ' H' s p ok' => ⟨G', S1, R, ok', fl, S', e, k.mono s p⟩
  | bk => cases e; exact k
  | ct => cases e; exact k
  | rt r => cases e; exact k
theorem ds_cons {st : Stmt} {rest : List Stmt} {f g : FS} (h1 : PS X st (tS c P f)) (h2 : PSs X rest (tS c P g)) : PSs X (st :: rest) (tS c P (sSeq f g)) := pssmono (pss_cons h1 h2) fun _ _ _ h => seq_read h
theorem ds_one {st : Stmt} {f : FS} (h1 : PS X st (tS c P f)) : PSs X [st] (tS c P f) := pss_one h1
theorem ds_ret {e : Expr} {f : FE} (h : PE X e (tE c f)) : PS X (.Return (some e) pos) (tS c P (sRet f)) := psmono (ps_ret h) fun D σ H h => by
  obtain ⟨G, S, R, ok, fl, S', e, k⟩ := h
  obtain ⟨⟨r, S1⟩, e1, e⟩ := bind_ok e
  cases e
  exact ⟨G, S, R, ok, r, _, e1, fun G' v H' s ok' => k G' v σ H' s (Prot.refl σ) ok'⟩
theorem ds_retN : PS X (.Return none pos) (tS c P sRetN) := psmono ps_retN fun D σ H h => by
  obtain ⟨G, S, R, ok, fl, S', e, k⟩ := h
  cases e
  exact k G .non σ H (Sub.refl G) (Prot.refl σ) ⟨ok.cov, ok.rel.put_sh .non⟩
theorem ds_break : PS X (.Break pos) (tS c P sBk) := psmono ps_break fun D σ H h => by
  obtain ⟨G, S, R, ok, fl, S', e, k⟩ := h
  cases e
  exact k G σ H (Sub.refl G) (Prot.refl σ) ok
theorem ds_continue : PS X (.Continue pos) (tS c P sCt) := psmono ps_continue fun D σ H h => by
  obtain ⟨G, S, R, ok, fl, S', e, k⟩ := h
  cases e
  exact k G σ H (Sub.refl G) (Prot.refl σ) ok
theorem ds_pass : PS X (.Pass pos) (tS c P sNil) := psmono ps_pass fun D σ H h => by
  obtain ⟨G, S, R, ok, fl, S', e, k⟩ := h
  cases e
  exact k G σ H (Sub.refl G) (Prot.refl σ) ok
theorem ds_expr {e : Expr} {f : FE} (h : PE X e (tE c f)) (hs : swapsWith e none pos.line X.env = pure false := by rfl) : PS X (.Expr e pos) (tS c P (sDrop f)) := psmono (ps_expr h hs) fun D σ H h => by
  obtain ⟨G, S, R, ok, fl, S', e, k⟩ := h
  obtain ⟨⟨r, S1⟩, e1, e⟩ := bind_ok e
  cases e
  exact ⟨G, S, R, ok, r, _, e1, fun G' v H' s ok' => k G' σ H' s (Prot.refl σ) ⟨ok'.cov, ok'.rel.drop⟩⟩
theorem ds_if {t : Expr} {a b : List Stmt} {ft : FT} {f g : FS} (ht : PT X t (tT c ft)) (ha : PSs X a (tS c P f)) (hb : PSs X b (tS c P g)) : PS X (.If t a b pos) (tS c P (sIf ft f g)) := psmono (ps_if ht ha hb) fun D σ H h => by
  obtain ⟨G, S, R, ok, fl, S', e, k⟩ := h
  obtain ⟨⟨b1, S1⟩, e1, e⟩ := bind_ok e
  refine ⟨G, S, R, ok, b1, S1, e1, fun G' H' s ok' => ?_⟩
  cases b1 with
  | true => exact ⟨G', S1, R, ok', fl, S', e, k.mono s (Prot.refl σ)⟩
  | false => exact ⟨G', S1, R, ok', fl, S', e, k.mono s (Prot.refl σ)⟩

/-! ### targets -/
abbrev FG := MV → SS → M SS
abbrev FGs := List D → SS → M SS
def tGd (c : Gh) (P : List Nat) (f : FG) : TG := fun v σ H Q => ∃ G S R r, SOk c G H σ S ((r.1, v, r.2) :: R) ∧ ∃ S', f r S = .ok S' ∧ ∀ G' σ' H', Sub G G' → Prot P σ σ' → SOk c G' H' σ' S' R → Q σ' H'
def tGsd (c : Gh) (P : List Nat) (f : FGs) : TGs := fun vs σ H Q => ∃ G S R ds, SOk c G H σ S R ∧ DqAll c.K G vs ds ∧ ∃ S', f ds S = .ok S' ∧ ∀ G' σ' H', Sub G G' → Prot P σ σ' → SOk c G' H' σ' S' R → Q σ' H'
def gNm (i : Nat) : FG := fun r S => .ok (S.set i (some r))
def gsNil : FGs := fun ds S => match ds with
  | [] => .ok S
  | _ => stk
def gsCons (g : FG) (gs : FGs) : FGs := fun ds S => match ds with
  | d :: ds => do
    let S1 ← g (.sh, d) S
    gs ds S1
  | _ => stk
def gTp (n : Nat) (gs : FGs) : FG := fun r S => match r with
  | (.sh, .tuple ds) => if ds.length = n then gs ds S else stk
  | _ => stk
theorem pgmono {e : Expr} {t t' : TG} (h : PG X e t) (k : ∀ v σ H Q, t' v σ H Q → t v σ H Q) : PG X e t' := ⟨fun pins s σ H v u Q I r q => h.run pins s σ H v u Q I r (k v σ H Q q)⟩
theorem pgsmono {e : List Expr} {t t' : TGs} (h : PGs X e t) (k : ∀ v σ H Q, t' v σ H Q → t v σ H Q) : PGs X e t' := ⟨fun pins s σ H v u Q I r q => h.run pins s σ H v u Q I r (k v σ H Q q)⟩
theorem SOk.clear {G H : Hp} {σ : L2.St} {S : SS} {R : List T3} (h : SOk c G H σ S R) (i : Nat) : SOk c G H σ (S.set i none) R := by
  refine ⟨h.cov.none i, ?_⟩
  by_cases q : ∃ r, S[i]? = some (some r)
  · obtain ⟨⟨m, d⟩, e⟩ := q
    obtain ⟨v, _, rl⟩ := h.slot e
    exact rl.drop
  · have e : S.set i none = S := by
      cases z : S[i]? with
      | none =>
        have : S.length ≤ i := List.getElem?_eq_none_iff.mp z
        exact List.set_eq_of_length_le this
      | some x =>
        cases x with
        | none => exact set_self z
        | some r => exact absurd ⟨r, z⟩ q
    rw [e]
    exact h.rel
theorem SOk.store {G H : Hp} {σ : L2.St} {S : SS} {R : List T3} {r : MV} {v : V} (h : SOk c G H σ S ((r.1, v, r.2) :: R)) (i : Nat) : SOk c G H (σ.set i (some v)) (S.set i (some r)) R := by
  have hc := h.clear i
  have hlen : (S.set i (some r)).length = (σ.set i (some v)).length := by rw [List.length_set, List.length_set]; exact h.cov.len
  have hat : ∀ (j : Nat) (x : Md × D), (S.set i (some r))[j]? = some (some x) → ∃ w : V, (σ.set i (some v))[j]? = some (some w) := fun j x e => by
    by_cases q : i = j
    · subst q
      have hi : i < S.length := by have := lt_of_get e; rwa [List.length_set] at this
      exact ⟨v, by rw [List.getElem?_set_self (by rw [← h.cov.len]; exact hi)]⟩
    · rw [List.getElem?_set_ne q] at e ⊢
      exact h.cov.at_ j x e
  refine ⟨⟨hlen, hat⟩, ?_⟩
  by_cases hi : i < S.length
  · have p := prs_put (σ := σ) (S := S) (i := i) (v := v) (m := r.1) (d := r.2) (by rw [← h.cov.len]; exact hi) hi
    exact hc.rel.perm ((List.perm_middle.symm).trans (p.symm.append_left R))
  · have e1 : S.set i (some r) = S := List.set_eq_of_length_le (by omega)
    have e2 : σ.set i (some v) = σ := List.set_eq_of_length_le (by have := h.cov.len; omega)
    rw [e1, e2]
    exact h.rel.drop
theorem Prot.set {σ : L2.St} {i : Nat} {x : Option V} (h : P.all (fun j => j != i) = true) : Prot P σ (σ.set i x) := ⟨List.length_set, fun j hj => by
  have := List.all_eq_true.mp h j hj
  rw [List.getElem?_set_ne (by simpa using (fun e : i = j => by simp [e] at this))]⟩
theorem dg_name {i : Nat} {x : Str} (hN : X.N.Nodup) (hi : X.N[i]? = some x := by rfl) (hx : Loc X.env.scope x := by first | exact Or.inl rfl | exact Or.inr rfl) (hP : P.all (fun j => j != i) = true := by rfl)
    (hf : X.fn x = true ∨ X.env.scope.names.lookup x = some .local := by first | exact .inl rfl | exact .inr rfl | assumption) : PG X (.Name x pos) (tGd c P (gNm i)) := pgmono (pg_name hN hi hx hf) fun v σ H Q h => by
  obtain ⟨G, S, R, r, ok, S', e, k⟩ := h
  cases e
  exact k G _ H (Sub.refl G) (Prot.set hP) (ok.store i)
theorem dgs_nil : PGs X [] (tGsd c P gsNil) := pgsmono pgs_nil fun vs σ H Q h => by
  obtain ⟨G, S, R, ds, ok, hd, S', e, k⟩ := h
  cases ds with
  | nil => cases e; cases hd; exact ⟨rfl, k G σ H (Sub.refl G) (Prot.refl σ) ok⟩
  | cons d ds => cases e
theorem dgs_cons {e : Expr} {es : List Expr} {g : FG} {gs : FGs} (h1 : PG X e (tGd c P g)) (h2 : PGs X es (tGsd c P gs)) (hs : (assignEach (e :: es) X.env).map (·.2) = assign e X.env :: (assignEach es X.env).map (·.2) := by rfl) : PGs X (e :: es) (tGsd c P (gsCons g gs)) := pgsmono (pgs_cons h1 h2 hs) fun vs σ H Q h => by
  obtain ⟨G, S, R, ds, ok, hd, S', e, k⟩ := h
  cases ds with
  | nil => cases e
  | cons d ds =>
    obtain ⟨S1, e1, e⟩ := bind_ok e
    cases hd with
    | cons a b =>
      refine ⟨_, _, rfl, G, S, R, (.sh, d), ⟨ok.cov, ok.rel.put_sh a⟩, S1, e1, fun G1 σ1 H1 s1 p1 ok1 => ?_⟩
      exact ⟨G1, S1, R, ds, ok1, Dq.subAll s1 _ _ b, S', e, fun G' σ' H' s p ok' => k G' σ' H' (s1.trans s) (p1.trans p) ok'⟩
theorem dg_tup {es : List Expr} {k : Nat} {gs : FGs} {n : Nat} (hK : c.K = X.K) (hc : X.calm = true) (h : PGs X es (tGsd c P gs)) (hn : (assignEach es X.env).length = n := by rfl) (hst : (assignEach es X.env).findIdx? (·.1) = none := by rfl) : PG X (.Tuple es k pos) (tGd c P (gTp n gs)) := pgmono (pg_tup hc h hn hst) fun v σ H Q h => by
  obtain ⟨G, S, R, r, ok, S', e, k⟩ := h
  unfold gTp at e
  split at e
  · split at e
    · rename_i hl
      have hd := ok.rel.sh_of
      cases hd with
      | tup a b =>
        refine ⟨_, _, rfl, by rw [← hK]; exact SqT.sub ok.sub a, by rw [b.length]; exact hl, G, S, R, _, ⟨ok.cov, ok.rel.drop⟩, b, S', e, k⟩
    · cases e
  · cases e
/-! ### assignments -/
def sAsg (g : FG) (f : FE) : FS := fun S => do
  let (r, S1) ← f S
  let S2 ← g r S1
  pure (.nx, S2)
theorem asg_read {f : FE} {g : FG} {Dn : Ends} {σ : L2.St} {H : Hp} (h : tS c P (sAsg g f) Dn σ H) : tAsg (tE c f) (tGd c P g) Dn σ H := by
  obtain ⟨G, S, R, ok, fl, S', e, k⟩ := h
  obtain ⟨⟨r, S1⟩, e1, e⟩ := bind_ok e
  obtain ⟨S2, e2, e⟩ := bind_ok e
  cases e
  exact ⟨G, S, R, ok, r, S1, e1, fun G' v H' s ok' => ⟨G', S1, R, r, ok', _, e2, fun G2 σ2 H2 s2 p2 ok2 => k G2 σ2 H2 (s.trans s2) p2 ok2⟩⟩
theorem ds_asg {tg e : Expr} {f : FE} {g : FG} (he : PE X e (tE c f)) (hg : PG X tg (tGd c P g)) (hs : swapsWithSole [tg] e pos.line X.env = pure false := by rfl) (hw : swappedStores [tg] e X.env = pure none := by rfl)
    (h1 : (assignEach [tg] X.env).map (·.2) = [assign tg X.env] := by rfl) : PS X (.Assign [tg] e pos) (tS c P (sAsg g f)) := psmono (ps_asg he hg hs hw h1) fun _ _ _ h => asg_read h
theorem ds_set {i : Nat} {x : Str} {e : Expr} {f : FE} {pos' : Pos} (hN : X.N.Nodup) (he : PE X e (tE c f)) (hi : X.N[i]? = some x := by rfl) (hx : Loc X.env.scope x := by first | exact Or.inl rfl | exact Or.inr rfl) (hP : P.all (fun j => j != i) = true := by rfl) (hs : swapsWith e (some (.Name x pos')) pos.line X.env = pure false := by rfl)
    (hf : X.fn x = true ∨ X.env.scope.names.lookup x = some .local := by first | exact .inl rfl | exact .inr rfl | assumption) : PS X (.Assign [.Name x pos'] e pos) (tS c P (sAsg (gNm i) f)) := psmono (ps_set hN hi hx he hs hf) fun D σ H h => by
  obtain ⟨G, S, R, ok, fl, S', e, k⟩ := h
  obtain ⟨⟨r, S1⟩, e1, e⟩ := bind_ok e
  obtain ⟨S2, e2, e⟩ := bind_ok e
  cases e2
  cases e
  exact ⟨G, S, R, ok, r, S1, e1, fun G' v H' s ok' => k G' _ H' s (Prot.set hP) (ok'.store i)⟩
/-- x op= e -/
def sAug (i : Nat) (sem : Sem2) (o : FO) : FS := fun S => do
  let (r, S1) ← fOp2 sem (oP i) o S
  pure (.nx, S1.set i (some r))
theorem ds_aug {i : Nat} {x : Str} {e : Expr} {op : Operator} {o : FO} {sem : Sem2} {pos' : Pos} (hN : X.N.Nodup) (he : PE X e (tO c o)) (ho : OpR X (inplaceOp op) (r2D c sem)) (hi : X.N[i]? = some x := by rfl) (hx : Loc X.env.scope x := by first | exact Or.inl rfl | exact Or.inr rfl) (hP : P.all (fun j => j != i) = true := by rfl)
    (hf : X.fn x = true ∨ X.env.scope.names.lookup x = some .local := by first | exact .inl rfl | exact .inr rfl | assumption) : PS X (.AugAssign (.Name x pos') op e pos) (tS c P (sAug i sem o)) := psmono (ps_aug hN hi hx he (ti := fun x y H Q => r2D c sem x y H Q) (fun pins s σ H x y v u Q I rx ry h => ho pins s σ H x y v u Q I rx ry h) hf) fun D σ H h => by
  obtain ⟨G, S, R, ok, fl, S', e, k⟩ := h
  obtain ⟨⟨r, S1⟩, e1, e⟩ := bind_ok e
  cases e
  have q := op2_read (c := c) (sem := sem) (oa := oP i) (ob := o) (σ := σ) (H := H) (Q := fun v H' => D.nx (σ.set i (some v)) H') ⟨G, S, R, ok, r, S1, e1, fun G' v H' s ok' => k G' _ H' s (Prot.set hP) (ok'.store i)⟩
  obtain ⟨G0, S0, R0, ok0, t, S0', e0, k0⟩ := q
  unfold oP at e0
  split at e0
  · rename_i r0 hS
    cases e0
    obtain ⟨v, hv⟩ := ok0.cov.at_ i r0 hS
    exact ⟨v, hv, k0 G0 v H (Sub.refl G0) hv ok0⟩
  · cases e0

/-! ### what a for walks -/
abbrev FI := SS → M (List D × SS)
structure WalkD (c : Gh) (J : It) (G : Hp) (ds : List D) : Prop where
  go : ∀ G' H i, Sub G G' → Sub G' H → i < ds.length → J.go i H
  stop : ∀ G' H, Sub G G' → Sub G' H → J.stop ds.length H
  yld : ∀ G' H i x H' d, Sub G G' → Sub G' H → ds[i]? = some d → J.yld i H x H' → (H' = H ∧ Dq c.K G' x d) ∨ ∃ T vs es, x = .ref T ∧ H T = none ∧ H' = upd H T (.tup vs) ∧ d = .tuple es ∧ DqAll c.K G' vs es ∧ strsD es = false
def tId (c : Gh) (f : FI) : TI := fun σ H R' => ∃ G S R, SOk c G H σ S R ∧ ∃ ds S', f S = .ok (ds, S') ∧ ∀ J G' H', Sub G G' → SOk c G' H' σ S' R → WalkD c J G' ds → R' J H'
theorem pimono {tg e : Expr} {t t' : TI} (h : PI X tg e t) (k : ∀ σ H Q, t' σ H Q → t σ H Q) : PI X tg e t' := ⟨fun pins s σ H Q I q => h.run pins s σ H Q I (k σ H Q q)⟩
def forD (g : FG) (body : FS) : List D → FS
  | [], S => .ok (.nx, S)
  | d :: ds, S => do
    let S1 ← g (.sh, d) S
    let (fl, S2) ← body S1
    match fl with
    | .nx => forD g body ds S2
    | .ct => forD g body ds S2
    | .bk => .ok (.nx, S2)
    | .rt r => .ok (.rt r, S2)
def sFor (fi : FI) (g : FG) (body : FS) : FS := fun S => do
  let (ds, S1) ← fi S
  forD g body ds S1
/-- what a turn yields is there for all -/
theorem yld_sh {J : It} {G G' H : Hp} {ds : List D} {i : Nat} {x : V} {H' : Hp} {d : D} {σ : L2.St} {S : SS} {R : List T3} (w : WalkD c J G ds) (s : Sub G G') (ok : SOk c G' H σ S R) (hd : ds[i]? = some d) (y : J.yld i H x H') : ∃ G2, Sub G' G2 ∧ SOk c G2 H' σ S ((.sh, x, d) :: R) := by
  rcases w.yld G' H i x H' d s ok.sub hd y with ⟨rfl, h⟩ | ⟨T, vs, es, rfl, hT, rfl, rfl, h, hs⟩
  · exact ⟨G', Sub.refl _, ok.cov, ok.rel.put_sh h⟩
  · obtain ⟨s2, r2⟩ := ok.rel.new_tup hT h hs
    exact ⟨_, s2, ok.cov, r2⟩
theorem ds_for {iter tg : Expr} {body : List Stmt} {fi : FI} {g : FG} {fb : FS} (hp : PassesOwn (model X.prog X.w) X.A X.env X.xe) (hc : X.calm = true) (hi : PI X tg iter (tId c fi)) (hg : PG X tg (tGd c P g)) (hb : PSs X body (tS c P fb))
    (hs : ∀ x, foldedSetIterable iter X.env x = pure x := by intro _; rfl) : PS X (.For tg iter body [] pos) (tS c P (sFor fi g fb)) := psmono (ps_for hp hc hi hg hb hs) fun Dn σ H h => by
  obtain ⟨G, S, R, ok, fl, S', e, k⟩ := h
  obtain ⟨⟨ds, S1⟩, e1, e⟩ := bind_ok e
  refine ⟨G, S, R, ok, ds, S1, e1, fun J G1 H1 s1 ok1 w => ?_⟩
  refine ⟨fun i m σ' H' => m = ds.length - i ∧ i ≤ ds.length ∧ ∃ G' S2, Sub G1 G' ∧ Prot P σ σ' ∧ SOk c G' H' σ' S2 R ∧ forD g fb (ds.drop i) S2 = .ok (fl, S'), ⟨_, rfl, Nat.zero_le _, G1, S1, Sub.refl _, Prot.refl _, ok1, e⟩, ?_⟩
  rintro i m σ' H' ⟨rfl, hle, G', S2, s2, p2, ok2, e2⟩
  by_cases hlt : i < ds.length
  · refine .inr ⟨w.go G' H' i s2 ok2.sub hlt, fun σ3 H3 => ∃ G3 S3, Sub G1 G3 ∧ Prot P σ σ3 ∧ SOk c G3 H3 σ3 S3 R ∧ forD g fb (ds.drop (i + 1)) S3 = .ok (fl, S'), fun σ3 H3 ⟨G3, S3, a1, a2, a3, a4⟩ => ⟨ds.length - (i + 1), by omega, rfl, hlt, G3, S3, a1, a2, a3, a4⟩, fun x H3 y => ?_⟩
    rw [List.drop_eq_getElem_cons hlt] at e2
    obtain ⟨S3, e3, e2⟩ := bind_ok e2
    obtain ⟨⟨fl4, S4⟩, e4, e2⟩ := bind_ok e2
    obtain ⟨G3, s3, ok3⟩ := yld_sh w s2 ok2 (List.getElem?_eq_getElem hlt) y
    refine ⟨G3, S2, R, _, ok3, S3, e3, fun G5 σ5 H5 s5 p5 ok5 => ?_⟩
    have sAll := (s2.trans s3).trans s5
    have pAll := p2.trans p5
    refine ⟨G5, S3, R, ok5, fl4, S4, e4, ?_⟩
    cases fl4 with
    | nx => exact fun G6 σ6 H6 s6 p6 ok6 => ⟨G6, S4, sAll.trans s6, pAll.trans p6, ok6, e2⟩
    | ct => exact fun G6 σ6 H6 s6 p6 ok6 => ⟨G6, S4, sAll.trans s6, pAll.trans p6, ok6, e2⟩
    | bk =>
      cases e2
      exact fun G6 σ6 H6 s6 p6 ok6 => k G6 σ6 H6 ((s1.trans sAll).trans s6) (pAll.trans p6) ok6
    | rt r =>
      cases e2
      exact fun G6 v σ6 H6 s6 p6 ok6 => k G6 v σ6 H6 ((s1.trans sAll).trans s6) (pAll.trans p6) ok6
  · have ei : i = ds.length := by omega
    subst ei
    rw [List.drop_length] at e2
    cases e2
    exact .inl ⟨w.stop G' H' s2 ok2.sub, k G' σ' H' (s1.trans s2) p2 ok2⟩
/-! while: the first number is how many turns there may be -/
def whileD (t : FT) (body : FS) : Nat → FS
  | 0, _ => stk
  | n + 1, S => do
    let (b, S1) ← t S
    if b then do
      let (fl, S2) ← body S1
      match fl with
      | .nx => whileD t body n S2
      | .ct => whileD t body n S2
      | .bk => .ok (.nx, S2)
      | .rt r => .ok (.rt r, S2)
    else .ok (.nx, S1)
theorem ds_while (n : Nat) {t : Expr} {body : List Stmt} {ft : FT} {fb : FS} (hp : PassesOwn (model X.prog X.w) X.A X.env X.xe) (ht : PT X t (tT c ft)) (hb : PSs X body (tS c P fb)) : PS X (.While t body [] pos) (tS c P (whileD ft fb n)) := psmono (ps_while hp ht hb) fun Dn σ H h => by
  obtain ⟨G, S, R, ok, fl, S', e, k⟩ := h
  refine ⟨fun m σ' H' => ∃ G' S2, Sub G G' ∧ Prot P σ σ' ∧ SOk c G' H' σ' S2 R ∧ whileD ft fb m S2 = .ok (fl, S'), ⟨n, G, S, Sub.refl _, Prot.refl _, ok, e⟩, ?_⟩
  rintro m σ' H' ⟨G', S2, s2, p2, ok2, e2⟩
  cases m with
  | zero => cases e2
  | succ m =>
    obtain ⟨⟨b, S3⟩, e3, e2⟩ := bind_ok e2
    refine ⟨G', S2, R, ok2, b, S3, e3, fun G3 H3 s3 ok3 => ?_⟩
    cases b with
    | false =>
      cases e2
      exact k G3 σ' H3 (s2.trans s3) p2 ok3
    | true =>
      obtain ⟨⟨fl4, S4⟩, e4, e2⟩ := bind_ok e2
      refine ⟨fun σ5 H5 => ∃ G5 S5, Sub G G5 ∧ Prot P σ σ5 ∧ SOk c G5 H5 σ5 S5 R ∧ whileD ft fb m S5 = .ok (fl, S'), fun σ5 H5 h5 => ⟨m, Nat.lt_succ_self m, h5⟩, ?_⟩
      refine ⟨G3, S3, R, ok3, fl4, S4, e4, ?_⟩
      cases fl4 with
      | nx => exact fun G6 σ6 H6 s6 p6 ok6 => ⟨G6, S4, (s2.trans s3).trans s6, p2.trans p6, ok6, e2⟩
      | ct => exact fun G6 σ6 H6 s6 p6 ok6 => ⟨G6, S4, (s2.trans s3).trans s6, p2.trans p6, ok6, e2⟩
      | bk =>
        cases e2
        exact fun G6 σ6 H6 s6 p6 ok6 => k G6 σ6 H6 ((s2.trans s3).trans s6) (p2.trans p6) ok6
      | rt r =>
        cases e2
        exact fun G6 v σ6 H6 s6 p6 ok6 => k G6 v σ6 H6 ((s2.trans s3).trans s6) (p2.trans p6) ok6
end
end O
set_option maxRecDepth 100000
set_option maxHeartbeats 1000000
namespace O
open PySem PySem.Spec PyProof.Rows L2
open AutoSeq1 (wpAny_loadPart')

/-! ### enumerate(tuple) -/
theorem meets_enumerate_newT (l : Addr) (items : Array Value) (dct : Option Addr) (sl : Array (Option Value)) (n : Nat) :
    Meets (Builtin.«enumerate.__new__» ⟨[.type "enumerate", .ref l], []⟩) (fun _ R s => s.heap.get? l = some { cls := .type "tuple", dict := dct, data := .seq items n, slots := sl } ∧
      R (.ok (.ret (.ref (s.heap.push { cls := .type "tuple_iterator", data := .fields #[.ref l, .int 0 0] }).objs.size)))
        { s with heap := (s.heap.push { cls := .type "tuple_iterator", data := .fields #[.ref l, .int 0 0] }).push { cls := .type "enumerate", data := .fields #[.none, .bool false, .ref s.heap.objs.size, rawInt 0, .none, .none] } }) :=
  .of_wp fun prog w A R s h => by
    obtain ⟨hp, g, d, tk, os⟩ := s; obtain ⟨hl, h⟩ := h
    have hsub := sub_enumerate
    have hL : Heap.IsTuple (Shared.heap ⟨hp, g, d, tk, os⟩) l items := ⟨_, hl, rfl, n, rfl⟩
    wp_walk using wpAny_loadPart' hl
    refine wpAny_stack_any fun st => wpAny_pure ?_
    split
    · rename_i c _ _ _ _ _
      cases (c == Value.type "enumerate")
      · wp_walk using wpAny_loadPart' hl, wpAny_pyIter_tuple hL
        exact ⟨_, rfl, h⟩
      · wp_walk using wpAny_loadPart' hl, wpAny_pyIter_tuple hL
        exact ⟨_, rfl, h⟩
    · wp_walk using wpAny_loadPart' hl, wpAny_pyIter_tuple hL
      exact ⟨_, rfl, h⟩
theorem call_enumerate_tup {prog : Program} {w : World} {A : Around} {E : Value → Shared → Prop} {s : Shared} {l : Addr} {items : Array Value} {Q : Value → Shared → Prop} (hL : s.heap.IsTuple l items)
    (h : ∀ h', IsEnum h' (s.heap.objs.size + 1) s.heap.objs.size 0 .none → h'.IsTupleIter s.heap.objs.size l 0 → h'.objs.size = s.heap.objs.size + 2 →
      (∀ b o, s.heap.get? b = some o → h'.get? b = some o) → Q (.ref (s.heap.objs.size + 1)) { s with heap := h' }) :
    wpAny (model prog w) A (call (.type "enumerate") [.ref l]) Q E s := by
  obtain ⟨⟨c, dct, dt, sl⟩, hl, hc, n, hd⟩ := hL
  replace hc : c = .type "tuple" := hc
  replace hd : dt = .seq items n := hd
  subst hc hd
  refine callType_new F.called_enumerate (by decide) (F.typeCall_enumerate_1 _) (F.newCall_enumerate_1 _) (fun obj => F.args_object_init_2 obj _) F.entry_enumerate_new
    (meets_enumerate_newT l items dct sl n) ⟨hl, ?_⟩
  have hz : (s.heap.push { cls := .type "tuple_iterator", data := .fields #[.ref l, .int 0 0] }).objs.size = s.heap.objs.size + 1 := Heap.size_push ..
  show _ ∧ _
  rw [hz]
  have he : IsEnum ((s.heap.push { cls := .type "tuple_iterator", data := .fields #[.ref l, .int 0 0] }).push
      { cls := .type "enumerate", data := .fields #[.none, .bool false, .ref s.heap.objs.size, rawInt 0, .none, .none] }) (s.heap.objs.size + 1) s.heap.objs.size 0 .none := by
    have := Heap.get?_push_size (s.heap.push { cls := .type "tuple_iterator", data := .fields #[.ref l, .int 0 0] })
      (o := { cls := .type "enumerate", data := .fields #[.none, .bool false, .ref s.heap.objs.size, rawInt 0, .none, .none] }) rfl
    rw [hz] at this; exact this
  refine ⟨⟨_, he, rfl⟩, h _ he ⟨_, Heap.get?_push_of_some _ (Heap.get?_push_size _ rfl), rfl, rfl⟩ (by rw [Heap.size_push, hz]) fun b o x => Heap.get?_push_of_some _ (Heap.get?_push_of_some _ x)⟩
def IteT (K : PySem.W.Frag) (a : Addr) : It :=
  ⟨fun i H => ∃ (xs : List V) (x : V), SqT K H a xs ∧ xs[i]? = some x, fun i H v H' => ∃ T x, v = .ref T ∧ H T = none ∧ H' = upd H T (.tup [.int (i : Nat), x]) ∧ ∀ xs, SqT K H a xs → xs[i]? = some x, fun i H => ∃ xs : List V, SqT K H a xs ∧ xs.length ≤ i⟩
theorem turn_enumT {P : Program} {w : World} {K : PySem.W.Frag} {elts : List Expr} {kk : Nat} {tpos : Pos} (a e it : Addr) :
    Turn P w K (.Tuple elts kk tpos) (IteT K a) [e, it] e (fun i h => (∃ old, IsEnum h e it ((i : Nat) : Int) old) ∧ h.IsTupleIter it a i ∧ e ≠ it ∧ a ≠ e ∧ a ≠ it) where
  mem := by simp
  obj := fun i h st b hb => by
    obtain ⟨⟨old, he⟩, ⟨o, ho, hc, hd⟩, _⟩ := st
    have e' : b = e ∨ b = it := by simpa using hb
    rcases e' with z | z
    · rw [z]; exact ⟨_, he, fun v q => nomatch q⟩
    · rw [z]; exact ⟨o, ho, fun v q => by rw [hd] at q; cases q⟩
  keep := fun i h h' st k => let ⟨⟨old, he⟩, hi, hne⟩ := st; ⟨⟨old, k e (by simp) _ he⟩, hi.at fun o q => k it (by simp) o q, hne⟩
  item := by
    intro X hP hw hK hc i pins s σ H E I hf st hg
    subst hP hw hK
    obtain ⟨⟨old, he⟩, hit, hne, hae, hai⟩ := st
    obtain ⟨xs, x, hq, hx⟩ := hg
    obtain ⟨its, rv, p, hz⟩ := I.tuple hq
    obtain ⟨u, hu, ru⟩ := rv.get hx
    have hel : e < s.heap.objs.size := Heap.lt_size he
    have hil : it < s.heap.objs.size := by obtain ⟨_, q, _⟩ := hit; exact Heap.lt_size q
    have ht : s.heap.IsTuple a its.toArray := p
    have hlt : i < its.toArray.size := by
      have := List.getElem?_eq_some_iff.mp hu
      obtain ⟨w, _⟩ := this
      simpa using w
    refine wpAny_pyNext_enum_itemD (Draws.tuple (show X.A.in1.handled = none from I.ok.hd hc) it a hai its.toArray) he ⟨hit, ht⟩ hlt hne (by simp [hne, Ne.symm hae]) fun x' h' tk hx' ho st' hT hsz hk => ?_
    have ex : x' = u := by
      have h1 : its.toArray[i]? = some u := by simpa using hu
      have h2 : its.toArray[i]? = some x' := hx'
      rw [h1] at h2; exact (Option.some.inj h2).symm
    subst ex
    refine ⟨_, rfl, wpAny_letOwnedTupleGo_enum (s := { s with heap := h', toks := tk + 1 }) ho fun h'' he' sb => ?_⟩
    have hT2 : h''.get? s.heap.objs.size = some { cls := .type "tuple", data := .seq #[.int i tk, x'] } := (sb.2 _ (Nat.ne_of_gt hel)).trans hT
    have new : ObjOk X.prog X.w (upd H s.heap.objs.size (.tup [.int (i : Nat), x])) h'' s.heap.objs.size (.tup [.int (i : Nat), x]) :=
      ⟨by show 2 ≤ sizeLine; decide, [.int i tk, x'], .cons ⟨_, rfl⟩ (.cons ru .nil), ⟨_, hT2, rfl, _, rfl⟩⟩
    have I1 : Inv X pins σ (upd H s.heap.objs.size (.tup [.int (i : Nat), x])) { s with heap := h'', toks := tk + 1 } :=
      I.turnedNew (ch := [e, it]) (fun b ob hb q => (sb.2 b (fun z => hb (by simp [z]))).trans (hk b ob (fun z => hb (by simp [z])) (fun z => hb (by simp [z])) q)) hf (Nat.le_refl _) new
    refine ⟨.ref s.heap.objs.size, _, I1, rfl, ⟨_, x, rfl, I.hok.fresh (Nat.le_refl _), rfl, fun ys hy => by rw [I.tuple_inj hy hq]; exact hx⟩, ⟨⟨x', ?_⟩, st'.1.at fun o q => (sb.2 it (Ne.symm hne)).trans q, hne, hae, hai⟩, fun b hb => ?_⟩
    · have e1 : ((i + 1 : Nat) : Int) = (i : Int) + 1 := by omega
      rw [e1]; exact he'
    · have hb' : b < s.heap.objs.size := by
        have e' : b = e ∨ b = it := by simpa using hb
        rcases e' with z | z
        · rw [z]; exact hel
        · rw [z]; exact hil
      rw [upd_ne (Nat.ne_of_lt hb')]
      exact (hf b hb).1
  done := by
    intro X hP hw hK hc i pins s σ H E I hf st hg
    subst hP hw hK
    obtain ⟨⟨old, he⟩, hit, hne, hae, hai⟩ := st
    obtain ⟨xs, hq, hx⟩ := hg
    obtain ⟨its, rv, p, hz⟩ := I.tuple hq
    obtain ⟨f0, f1, f2, f3, f4, f5⟩ := hf it (by simp)
    have hl := rv.length
    have ht : s.heap.IsTuple a its.toArray := p
    have hT : s.TypeIs (.ref e) "enumerate" := ⟨_, he, rfl⟩
    have hn : its.toArray[i]? = none := by simp; omega
    unfold pyNext
    refine wpAny_bind (wpAny_attempt (wpAny_callSpecial?_slot (name := Str.ofString "__next__") hT F.slot_enumerate_next
      (wpAny_call_entry F.slot_enumerate_next hT F.entry_enumerate_next ?_ (F.args_enumerate_next_1 _))))
    show wpAny _ _ (field (.ref e) 2 >>= _) _ _ _
    refine wpAny_bind (wpAny_field he rfl (x := .ref it) rfl ?_)
    refine wpAny_bind (wpAny_nextOf_tuple_end (A := X.A.in1) (show X.A.in1.handled = none from I.ok.hd hc) hit ht hn fun h' x he' hx' => ?_)
    obtain ⟨o, ho, hc'⟩ := hx'
    refine wpAny_bind (wpAny_isInstance (T := "StopIteration") (b := true) ⟨o, ho, hc'⟩ isSubtype_stop ?_)
    exact wpAny_pure ⟨rfl, I.turned (t' := s.toks) (fun b o hb q => he' b o hb q) f0 f1 f3 f4 f5⟩
  self := fun A i s Q E st h => let ⟨⟨_, he⟩, _⟩ := st; wpAny_pyIter_enum he h
def iEnumA (K : PySem.W.Frag) (ta : TA) : TI := fun σ H R => ta σ H fun vs H1 => ∃ a xs, vs = [.ref a] ∧ ((SqL K H1 a xs ∧ R (Ite K a) H1) ∨ (SqT K H1 a xs ∧ R (IteT K a) H1))
theorem pi_enumA {X : Cx} {e : Expr} {ta : TA} {p pos tpos : Pos} {elts : List Expr} {kk : Nat} (hg : Gl X "enumerate") (hm : X.mg "enumerate" = none) (ha : PA X [e] ta) (hs : starEach [e] X.env = [(false, eval e X.env)] := by rfl) :
    PI X (.Tuple elts kk tpos) (.Call (.Name "enumerate" p) [e] [] pos) (iEnumA X.K ta) := by
  refine ⟨fun pins s σ H R I h => ?_⟩
  refine Call_ (ld_blt I hg hm boot_enumerate (PyProof.Rows.callWith_type1 (thn (ha.run pos pins s σ H _ I h) fun us s1 ⟨vs, H1, I1, r1, q1⟩ => ?_) hs rfl))
  obtain ⟨a, xs, ex, q1⟩ := q1
  subst ex
  cases r1 with
  | cons r rr =>
    cases rr
    cases r
    have fr : ∀ b ∈ [s1.heap.objs.size + 1, s1.heap.objs.size], FpOk X pins H1 b := fun b hb => by
      have e' : b = s1.heap.objs.size + 1 ∨ b = s1.heap.objs.size := by simpa using hb
      have hle : s1.heap.objs.size ≤ b := by
        rcases e' with z | z
        · rw [z]; exact Nat.le_add_right _ _
        · rw [z]; exact Nat.le_refl _
      exact I1.fpOk hle (I1.hok.fresh hle)
    rcases q1 with ⟨hq, q⟩ | ⟨hq, q⟩
    · obtain ⟨its, rv, p', hz⟩ := I1.list hq
      refine call_enumerate_list p'.isList fun h' he hit hsz hk => wpAny_pyIter_enum he ?_
      have I2 : Inv X pins σ H1 { s1 with heap := h' } := I1.kept (t' := s1.toks) hk
      exact ⟨s1.heap.objs.size + 1, [s1.heap.objs.size + 1, s1.heap.objs.size], _, _, H1, rfl, I2, turn_enum a (s1.heap.objs.size + 1) s1.heap.objs.size, ⟨⟨.none, he⟩, hit, Nat.succ_ne_self _⟩, fr, q⟩
    · obtain ⟨its, rv, p', hz⟩ := I1.tuple hq
      have ht : s1.heap.IsTuple a its.toArray := p'
      have hlt : a < s1.heap.objs.size := by obtain ⟨o, ho, _⟩ := id ht; exact Heap.lt_size ho
      refine call_enumerate_tup ht fun h' he hit hsz hk => wpAny_pyIter_enum he ?_
      have I2 : Inv X pins σ H1 { s1 with heap := h' } := I1.kept (t' := s1.toks) hk
      exact ⟨s1.heap.objs.size + 1, [s1.heap.objs.size + 1, s1.heap.objs.size], _, _, H1, rfl, I2, turn_enumT a (s1.heap.objs.size + 1) s1.heap.objs.size, ⟨⟨.none, he⟩, hit, Nat.succ_ne_self _, Nat.ne_of_lt (Nat.lt_succ_of_lt hlt), Nat.ne_of_lt hlt⟩, fr, q⟩

/-! ### walks -/
section
variable {X : Cx} {c : Gh}
theorem walk_lst {c : Gh} {G : Hp} {a : Addr} {vs : List V} {ds : List D} (h : G a = some (.lst vs)) (hd : DqAll c.K G vs ds) : WalkD c (Itl c.K a) G ds := by
  have hl := hd.length
  refine ⟨fun G' H i s s2 hi => ⟨vs, vs[i], .inl (.inl (s2 _ _ (s _ _ h))), by simp [show i < vs.length by omega]⟩, fun G' H s s2 => ⟨vs, .inl (.inl (s2 _ _ (s _ _ h))), by omega⟩, fun G' H i x H' d s s2 hi y => ?_⟩
  obtain ⟨e, y⟩ := y
  subst e
  have hx := y vs (.inl (.inl (s2 _ _ (s _ _ h))))
  obtain ⟨d', h1, h2⟩ := hd.get' hx
  rw [hi] at h1
  cases h1
  exact .inl ⟨rfl, Dq.sub s _ _ h2⟩
theorem walk_tpl {c : Gh} {G : Hp} {a : Addr} {vs : List V} {ds : List D} (h : SqT c.K G a vs) (hd : DqAll c.K G vs ds) : WalkD c (Itt c.K a) G ds := by
  have hl := hd.length
  refine ⟨fun G' H i s s2 hi => ⟨vs, vs[i], SqT.sub (s.trans s2) h, by simp [show i < vs.length by omega]⟩, fun G' H s s2 => ⟨vs, SqT.sub (s.trans s2) h, by omega⟩, fun G' H i x H' d s s2 hi y => ?_⟩
  obtain ⟨e, y⟩ := y
  subst e
  have hx := y vs (SqT.sub (s.trans s2) h)
  obtain ⟨d', h1, h2⟩ := hd.get' hx
  rw [hi] at h1
  cases h1
  exact .inl ⟨rfl, Dq.sub s _ _ h2⟩
def signs (x : Str) : List D := x.cps.toList.map fun c => .str ⟨#[c]⟩
theorem walk_sig {c : Gh} {G : Hp} {x : Str} : WalkD c (Its x) G (signs x) := by
  have hl : (signs x).length = x.cps.size := by simp [signs]
  refine ⟨fun G' H i s s2 hi => by show i < x.cps.size; omega, fun G' H s s2 => by show x.cps.size ≤ _; omega, fun G' H i v H' d s s2 hi y => ?_⟩
  obtain ⟨e, k, hk, rfl⟩ := y
  subst e
  have : d = .str ⟨#[k]⟩ := by
    simp [signs, hk] at hi
    exact hi.symm
  subst this
  exact .inl ⟨rfl, .str _⟩
def rangeD (lo c : Int) (n : Nat) : List D := (List.range n).map fun i => .int (lo + (i : Nat) * c)
theorem rangeD_get {lo c : Int} {n i : Nat} {d : D} (h : (rangeD lo c n)[i]? = some d) : d = .int (lo + (i : Nat) * c) := by
  simp only [rangeD, List.getElem?_map, Option.map_eq_some_iff] at h
  obtain ⟨j, h1, h2⟩ := h
  rw [List.getElem?_eq_some_iff] at h1
  obtain ⟨w, h1⟩ := h1
  simp at h1
  rw [← h2, h1]
theorem walk_rng {c : Gh} {G : Hp} {lo : Int} {n : Nat} : WalkD c (Itr lo n) G (rangeD lo 1 n) := by
  have hl : (rangeD lo 1 n).length = n := by simp [rangeD]
  refine ⟨fun G' H i s s2 hi => by show i < n; omega, fun G' H s s2 => by show n ≤ _; omega, fun G' H i v H' d s s2 hi y => ?_⟩
  obtain ⟨e, rfl⟩ := y
  subst e
  rw [rangeD_get hi]
  rw [Int.mul_one]
  exact .inl ⟨rfl, .int _⟩
theorem walk_rngC {c : Gh} {G : Hp} {lo k : Int} {n : Nat} : WalkD c (Itc lo k n) G (rangeD lo k n) := by
  have hl : (rangeD lo k n).length = n := by simp [rangeD]
  refine ⟨fun G' H i s s2 hi => by show i < n; omega, fun G' H s s2 => by show n ≤ _; omega, fun G' H i v H' d s s2 hi y => ?_⟩
  obtain ⟨e, rfl⟩ := y
  subst e
  rw [rangeD_get hi]
  exact .inl ⟨rfl, .int _⟩
/-- the items of a shared value: list, tuple, text -/
def fiSeq (f : FE) : FI := fun S => do
  let (r, S1) ← f S
  let z ← giveR r
  match z.2 with
  | .list ds => pure (ds, S1)
  | .tuple ds => pure (ds, S1)
  | .str x => pure (signs x, S1)
  | _ => stk
theorem di_seq {tg e : Expr} {f : FE} (hK : c.K = X.K) (he : PE X e (tE c f)) : PI X tg e (tId c (fiSeq f)) := by
  refine ⟨fun pins s σ H Q I h => ?_⟩
  obtain ⟨G, S, R, ok, ds, S', e, k⟩ := h
  obtain ⟨⟨r, S1⟩, e1, e⟩ := bind_ok e
  obtain ⟨z, e2, e⟩ := bind_ok e
  have base : ∀ (P : V → Hp → Prop), (∀ G' v H', Sub G G' → SOk c G' H' σ S1 R → Dq c.K G' v z.2 → P v H') → tE c f σ H P := fun P hP => by
    refine ⟨G, S, R, ok, r, S1, e1, fun G' v H' s ok' => ?_⟩
    obtain ⟨hz, G2, s2, rl2⟩ := Rel.give ok'.rel e2
    rw [hz] at hP
    exact hP G2 v H' (s.trans s2) ⟨ok'.cov, rl2.drop⟩ rl2.sh_of
  obtain ⟨m, d⟩ := z
  simp only at e base
  cases d with
  | list es =>
    cases e
    refine (pi_list he).run pins s σ H Q I (base _ fun G' v H' s' ok' hd => ?_)
    cases hd with
    | lst a b => exact ⟨_, rfl, ⟨_, .inl (.inl (ok'.sub _ _ a))⟩, by rw [← hK]; exact k _ G' H' s' ok' (walk_lst a b)⟩
  | tuple es =>
    cases e
    refine (pi_tup he).run pins s σ H Q I (base _ fun G' v H' s' ok' hd => ?_)
    cases hd with
    | tup a b => exact ⟨_, rfl, ⟨_, by rw [← hK]; exact SqT.sub ok'.sub a⟩, by rw [← hK]; exact k _ G' H' s' ok' (walk_tpl a b)⟩
  | str x =>
    cases e
    refine (pi_str he).run pins s σ H Q I (base _ fun G' v H' s' ok' hd => ?_)
    cases hd
    exact ⟨_, rfl, k _ G' H' s' ok' walk_sig⟩
  | _ => cases e
def small62 (i : Int) : Bool := decide (-(2 ^ 62) ≤ i) && decide (i < 2 ^ 62)
theorem small62_ok {i : Int} (h : small62 i = true) : -(2 ^ 62) ≤ i ∧ i < 2 ^ 62 := by
  unfold small62 at h
  rw [Bool.and_eq_true, decide_eq_true_eq, decide_eq_true_eq] at h
  exact h
/-- what range gives -/
abbrev SemL := List D → M (List D)
def rng1 : SemL
  | [.int j] => if small62 j then .ok (rangeD 0 1 j.toNat) else stk
  | _ => stk
def rng2 : SemL
  | [.int i, .int j] => if small62 i && small62 j then .ok (rangeD i 1 (j - i).toNat) else stk
  | _ => stk
def rng3 : SemL
  | [.int i, .int j, .int k] => if small62 i && small62 j && (k == -1) then .ok (rangeD i (-1) (i - j).toNat) else stk
  | _ => stk
def fiA (sem : List MV → M (List D)) (f : FA) : FI := fun S => do
  let (ts, S1) ← f S
  let rs ← tkGets ts S1
  let ds ← sem rs
  pure (ds, S1)
/-- .. of what is told by its data alone -/
def onD (sem : SemL) : List MV → M (List D) := fun rs => sem (rs.map (·.2))
theorem views_ints {c : Gh} {G H : Hp} {L : List T3} (rl : Rel c G H L) : ∀ {is : List Int} {rs : List MV} {vs : List V}, Views c G H rs vs → rs.map (·.2) = is.map PyData.int → vs = is.map V.int := by
  intro is
  induction is with
  | nil =>
    intro rs vs h e
    cases rs with
    | nil => cases h; rfl
    | cons => simp at e
  | cons i is ih =>
    intro rs vs h e
    cases h with
    | nil => simp at e
    | cons a b =>
      simp only [List.map_cons, List.cons.injEq] at e
      have := a.dp rl (by rw [e.1]; rfl)
      rw [e.1] at this
      cases this
      rw [ih b e.2]; rfl
theorem fiA_read {sem : List MV → M (List D)} {f : FA} {σ : L2.St} {H : Hp} {Q : It → Hp → Prop} (h : tId c (fiA sem f) σ H Q) : tA c f σ H fun vs H1 => ∃ G S' R rs ds L, SOk c G H1 σ S' R ∧ Rel c G H1 L ∧ Views c G H1 rs vs ∧ sem rs = .ok ds ∧ ∀ J G' H', Sub G G' → SOk c G' H' σ S' R → WalkD c J G' ds → Q J H' := by
  obtain ⟨G, S, R, ok, ds, S', e, k⟩ := h
  obtain ⟨⟨ts, S1⟩, e1, e⟩ := bind_ok e
  obtain ⟨rs, e2, e⟩ := bind_ok e
  obtain ⟨ds', e3, e⟩ := bind_ok e
  cases e
  refine ⟨G, S, R, ok, ts, _, e1, fun G1 vs H1 s1 h1 ok1 => ?_⟩
  have hv := tks_views ok1 (fun x hx => List.mem_append_left _ hx) h1 e2
  have fin : SOk c G1 H1 σ S' R := ⟨ok1.cov, ok1.rel.sublist (List.Sublist.append_right (List.sublist_append_right _ _) _)⟩
  exact ⟨G1, S', R, rs, ds, _, fin, ok1.rel, hv, e3, fun J G' H' s => k J G' H' (s1.trans s)⟩
theorem di_rng1 {tg a : Expr} {f : FA} {p pos : Pos} (hg : Gl X "range") (hm : X.mg "range" = none) (ha : PA X [a] (tA c f)) (hs : starEach [a] X.env = [(false, eval a X.env)] := by rfl) : PI X tg (.Call (.Name "range" p) [a] [] pos) (tId c (fiA (onD rng1) f)) := by
  refine pimono (pi_range1 hg hm ha hs) fun σ H Q h => ?_
  obtain ⟨G, S, R, ok, ts, S1, e1, k1⟩ := fiA_read h
  refine ⟨G, S, R, ok, ts, S1, e1, fun G1 vs H1 s1 h1 ok1 => ?_⟩
  obtain ⟨G2, S2, R2, rs, ds, L, ok2, rl, hv, e, k⟩ := k1 G1 vs H1 s1 h1 ok1
  unfold onD rng1 at e
  split at e
  · rename_i j hj
    split at e
    · rename_i hs'
      cases e
      have := small62_ok hs'
      exact ⟨j, views_ints rl (is := [j]) hv hj, this.1, this.2, k _ G2 H1 (Sub.refl _) ok2 walk_rng⟩
    · cases e
  · cases e
theorem di_rng2 {tg a b : Expr} {f : FA} {p pos : Pos} (hg : Gl X "range") (hm : X.mg "range" = none) (ha : PA X [a, b] (tA c f)) (hs : starEach [a, b] X.env = [(false, eval a X.env), (false, eval b X.env)] := by rfl) (hs2 : starEach [b] X.env = [(false, eval b X.env)] := by rfl) : PI X tg (.Call (.Name "range" p) [a, b] [] pos) (tId c (fiA (onD rng2) f)) := by
  refine pimono (pi_range2 hg hm ha hs hs2) fun σ H Q h => ?_
  obtain ⟨G, S, R, ok, ts, S1, e1, k1⟩ := fiA_read h
  refine ⟨G, S, R, ok, ts, S1, e1, fun G1 vs H1 s1 h1 ok1 => ?_⟩
  obtain ⟨G2, S2, R2, rs, ds, L, ok2, rl, hv, e, k⟩ := k1 G1 vs H1 s1 h1 ok1
  unfold onD rng2 at e
  split at e
  · rename_i i j hj
    split at e
    · rename_i hs'
      cases e
      rw [Bool.and_eq_true] at hs'
      have a1 := small62_ok hs'.1
      have a2 := small62_ok hs'.2
      exact ⟨i, j, views_ints rl (is := [i, j]) hv hj, ⟨a1.1, a1.2, a2.1, a2.2⟩, k _ G2 H1 (Sub.refl _) ok2 walk_rng⟩
    · cases e
  · cases e
theorem di_rng3 {tg a b d : Expr} {f : FA} {p pos : Pos} (hg : Gl X "range") (hm : X.mg "range" = none) (ha : PA X [a, b, d] (tA c f)) (hs : starEach [a, b, d] X.env = (false, eval a X.env) :: starEach [b, d] X.env := by rfl) (hpl : (backTo pos (starEach [b, d] X.env)).any (·.1) = false := by rfl) : PI X tg (.Call (.Name "range" p) [a, b, d] [] pos) (tId c (fiA (onD rng3) f)) := by
  refine pimono (pi_range3 hg hm ha hs hpl) fun σ H Q h => ?_
  obtain ⟨G, S, R, ok, ts, S1, e1, k1⟩ := fiA_read h
  refine ⟨G, S, R, ok, ts, S1, e1, fun G1 vs H1 s1 h1 ok1 => ?_⟩
  obtain ⟨G2, S2, R2, rs, ds, L, ok2, rl, hv, e, k⟩ := k1 G1 vs H1 s1 h1 ok1
  unfold onD rng3 at e
  split at e
  · rename_i i j q hj
    split at e
    · rename_i hs'
      cases e
      rw [Bool.and_eq_true, Bool.and_eq_true] at hs'
      have a1 := small62_ok hs'.1.1
      have a2 := small62_ok hs'.1.2
      have hq : q = -1 := by simpa using hs'.2
      subst hq
      exact ⟨i, j, -1, _, views_ints rl (is := [i, j, -1]) hv hj, RgC.neg a1.1 a1.2 a2.1 a2.2, k _ G2 H1 (Sub.refl _) ok2 walk_rngC⟩
    · cases e
  · cases e
/-! enumerate, zip: of shared sequences -/
def seqSh : MV → M (List D)
  | (.sh, .list ds) => .ok ds
  | (.sh, .tuple ds) => .ok ds
  | _ => stk
theorem seqSh_ok {c : Gh} {G H : Hp} {r : MV} {v : V} {ds : List D} (h : View c G H r v) (e : seqSh r = .ok ds) : ∃ a vs, v = .ref a ∧ ((r.2 = .list ds ∧ G a = some (.lst vs)) ∨ (r.2 = .tuple ds ∧ SqT c.K G a vs)) ∧ DqAll c.K G vs ds := by
  obtain ⟨m, d⟩ := r
  unfold seqSh at e
  split at e
  · rename_i q
    cases q; cases e
    cases sh_dq h with
    | lst a b => exact ⟨_, _, rfl, .inl ⟨rfl, a⟩, b⟩
  · rename_i q
    cases q; cases e
    cases sh_dq h with
    | tup a b => exact ⟨_, _, rfl, .inr ⟨rfl, a⟩, b⟩
  · cases e
def enumOf : List MV → M (List D)
  | [r] => do
    let ds ← seqSh r
    pure (ds.zipIdx.map fun x => .tuple [.int (x.2 : Nat), x.1])
  | _ => stk
def enD (ds : List D) : List D := ds.zipIdx.map fun x => .tuple [.int (x.2 : Nat), x.1]
theorem enD_get {ds : List D} {i : Nat} {d : D} (h : (enD ds)[i]? = some d) : ∃ e, ds[i]? = some e ∧ d = .tuple [.int (i : Nat), e] := by
  unfold enD at h
  rw [List.getElem?_map, Option.map_eq_some_iff] at h
  obtain ⟨⟨x, j⟩, h1, h2⟩ := h
  rw [List.getElem?_zipIdx] at h1
  simp at h1
  obtain ⟨y, h1, rfl, rfl⟩ := h1
  exact ⟨_, h1, h2.symm⟩
theorem enD_len {ds : List D} : (enD ds).length = ds.length := by simp [enD]
theorem walk_enL {G : Hp} {a : Addr} {vs : List V} {ds : List D} (h : G a = some (.lst vs)) (hd : DqAll c.K G vs ds) : WalkD c (Ite c.K a) G (enD ds) := by
  have hl := hd.length
  have hl2 := enD_len (ds := ds)
  refine ⟨fun G' H i s s2 hi => ⟨vs, vs[i], .inl (.inl (s2 _ _ (s _ _ h))), by simp [show i < vs.length by omega]⟩, fun G' H s s2 => ⟨vs, .inl (.inl (s2 _ _ (s _ _ h))), by omega⟩, fun G' H i x H' d s s2 hi y => ?_⟩
  obtain ⟨T, y, rfl, hT, rfl, hx⟩ := y
  have hx := hx vs (.inl (.inl (s2 _ _ (s _ _ h))))
  obtain ⟨d', h1, h2⟩ := hd.get' hx
  obtain ⟨e, h3, rfl⟩ := enD_get hi
  rw [h1] at h3
  cases h3
  exact .inr ⟨T, _, _, rfl, hT, rfl, rfl, .cons (.int _) (.cons (Dq.sub s _ _ h2) .nil), rfl⟩
theorem walk_enT {G : Hp} {a : Addr} {vs : List V} {ds : List D} (h : SqT c.K G a vs) (hd : DqAll c.K G vs ds) : WalkD c (IteT c.K a) G (enD ds) := by
  have hl := hd.length
  have hl2 := enD_len (ds := ds)
  refine ⟨fun G' H i s s2 hi => ⟨vs, vs[i], SqT.sub (s.trans s2) h, by simp [show i < vs.length by omega]⟩, fun G' H s s2 => ⟨vs, SqT.sub (s.trans s2) h, by omega⟩, fun G' H i x H' d s s2 hi y => ?_⟩
  obtain ⟨T, y, rfl, hT, rfl, hx⟩ := y
  have hx := hx vs (SqT.sub (s.trans s2) h)
  obtain ⟨d', h1, h2⟩ := hd.get' hx
  obtain ⟨e, h3, rfl⟩ := enD_get hi
  rw [h1] at h3
  cases h3
  exact .inr ⟨T, _, _, rfl, hT, rfl, rfl, .cons (.int _) (.cons (Dq.sub s _ _ h2) .nil), rfl⟩
theorem di_enum {e : Expr} {f : FA} {p pos tpos : Pos} {elts : List Expr} {kk : Nat} (hK : c.K = X.K) (hg : Gl X "enumerate") (hm : X.mg "enumerate" = none) (ha : PA X [e] (tA c f)) (hs : starEach [e] X.env = [(false, eval e X.env)] := by rfl) :
    PI X (.Tuple elts kk tpos) (.Call (.Name "enumerate" p) [e] [] pos) (tId c (fiA enumOf f)) := by
  refine pimono (pi_enumA hg hm ha hs) fun σ H Q h => ?_
  obtain ⟨G, S, R, ok, ts, S1, e1, k1⟩ := fiA_read h
  refine ⟨G, S, R, ok, ts, S1, e1, fun G1 vs H1 s1 h1 ok1 => ?_⟩
  obtain ⟨G2, S2, R2, rs, ds, L, ok2, rl, hv, e, k⟩ := k1 G1 vs H1 s1 h1 ok1
  unfold enumOf at e
  split at e
  · obtain ⟨v, rfl, hw⟩ := views1 hv
    obtain ⟨es, e2, e⟩ := bind_ok e
    cases e
    obtain ⟨a, us, rfl, hq, hd⟩ := seqSh_ok hw e2
    rw [← hK]
    refine ⟨a, us, rfl, ?_⟩
    rcases hq with ⟨_, hq⟩ | ⟨_, hq⟩
    · exact .inl ⟨.inl (.inl (rl.sub _ _ hq)), k _ G2 H1 (Sub.refl _) ok2 (walk_enL hq hd)⟩
    · exact .inr ⟨SqT.sub rl.sub hq, k _ G2 H1 (Sub.refl _) ok2 (walk_enT hq hd)⟩
  · cases e
def zpD (ds es : List D) : List D := (ds.zip es).map fun x => .tuple [x.1, x.2]
def kindD : D → Bool
  | .list _ => true
  | _ => false
def zipOf : List MV → M (List D)
  | [r, q] => do
    let ds ← seqSh r
    let es ← seqSh q
    if kindD r.2 == kindD q.2 && !(ds.any strD && es.any strD) then pure (zpD ds es) else stk
  | _ => stk
theorem zpD_get {ds es : List D} {i : Nat} {d : D} (h : (zpD ds es)[i]? = some d) : ∃ x y, ds[i]? = some x ∧ es[i]? = some y ∧ d = .tuple [x, y] := by
  unfold zpD at h
  rw [List.getElem?_map, Option.map_eq_some_iff] at h
  obtain ⟨⟨x, y⟩, h1, h2⟩ := h
  rw [List.getElem?_zip_eq_some] at h1
  exact ⟨x, y, h1.1, h1.2, h2.symm⟩
theorem zpD_len {ds es : List D} : (zpD ds es).length = min ds.length es.length := by simp [zpD]
theorem zp_strs {ds es : List D} {i : Nat} {x y : D} (hn : (!(ds.any strD && es.any strD)) = true) (h1 : ds[i]? = some x) (h2 : es[i]? = some y) : strsD [x, y] = false := by
  show (true && (strD x && (strD y && true))) = false
  cases hx : strD x with
  | false => rfl
  | true =>
    cases hy : strD y with
    | false => rfl
    | true =>
      have a : ds.any strD = true := List.any_eq_true.mpr ⟨x, List.mem_of_getElem? h1, hx⟩
      have b : es.any strD = true := List.any_eq_true.mpr ⟨y, List.mem_of_getElem? h2, hy⟩
      rw [a, b] at hn
      cases hn
theorem walk_zpL {G : Hp} {a b : Addr} {vs us : List V} {ds es : List D} (h : G a = some (.lst vs)) (h' : G b = some (.lst us)) (hd : DqAll c.K G vs ds) (he : DqAll c.K G us es) (hn : (!(ds.any strD && es.any strD)) = true) : WalkD c (Itz c.K a b) G (zpD ds es) := by
  have hl := hd.length
  have hl' := he.length
  have hl2 := zpD_len (ds := ds) (es := es)
  refine ⟨fun G' H i s s2 hi => ⟨vs, us, vs[i], us[i], .inl (.inl (s2 _ _ (s _ _ h))), .inl (.inl (s2 _ _ (s _ _ h'))), by simp [show i < vs.length by omega], by simp [show i < us.length by omega]⟩, fun G' H s s2 => ⟨vs, us, .inl (.inl (s2 _ _ (s _ _ h))), .inl (.inl (s2 _ _ (s _ _ h'))), by omega⟩, fun G' H i x H' d s s2 hi y => ?_⟩
  obtain ⟨T, y, z, rfl, hT, rfl, hx, hy⟩ := y
  have hx := hx vs (.inl (.inl (s2 _ _ (s _ _ h))))
  have hy := hy us (.inl (.inl (s2 _ _ (s _ _ h'))))
  obtain ⟨d1, h1, h2⟩ := hd.get' hx
  obtain ⟨d2, h3, h4⟩ := he.get' hy
  obtain ⟨e1, e2, h5, h6, rfl⟩ := zpD_get hi
  rw [h1] at h5
  rw [h3] at h6
  cases h5; cases h6
  exact .inr ⟨T, _, _, rfl, hT, rfl, rfl, .cons (Dq.sub s _ _ h2) (.cons (Dq.sub s _ _ h4) .nil), zp_strs hn h1 h3⟩
theorem walk_zpT {G : Hp} {a b : Addr} {vs us : List V} {ds es : List D} (h : SqT c.K G a vs) (h' : SqT c.K G b us) (hd : DqAll c.K G vs ds) (he : DqAll c.K G us es) (hn : (!(ds.any strD && es.any strD)) = true) : WalkD c (RZ.ItzT c.K a b) G (zpD ds es) := by
  have hl := hd.length
  have hl' := he.length
  have hl2 := zpD_len (ds := ds) (es := es)
  refine ⟨fun G' H i s s2 hi => ⟨vs, us, vs[i], us[i], SqT.sub (s.trans s2) h, SqT.sub (s.trans s2) h', by simp [show i < vs.length by omega], by simp [show i < us.length by omega]⟩, fun G' H s s2 => ⟨vs, us, SqT.sub (s.trans s2) h, SqT.sub (s.trans s2) h', by omega⟩, fun G' H i x H' d s s2 hi y => ?_⟩
  obtain ⟨T, y, z, rfl, hT, rfl, hx, hy⟩ := y
  have hx := hx vs (SqT.sub (s.trans s2) h)
  have hy := hy us (SqT.sub (s.trans s2) h')
  obtain ⟨d1, h1, h2⟩ := hd.get' hx
  obtain ⟨d2, h3, h4⟩ := he.get' hy
  obtain ⟨e1, e2, h5, h6, rfl⟩ := zpD_get hi
  rw [h1] at h5
  rw [h3] at h6
  cases h5; cases h6
  exact .inr ⟨T, _, _, rfl, hT, rfl, rfl, .cons (Dq.sub s _ _ h2) (.cons (Dq.sub s _ _ h4) .nil), zp_strs hn h1 h3⟩
theorem di_zip {e e2 : Expr} {f : FA} {p pos tpos : Pos} {elts : List Expr} {kk : Nat} (hK : c.K = X.K) (hg : Gl X "zip") (hm : X.mg "zip" = none) (ha : PA X [e, e2] (tA c f))
    (hs : starEach [e, e2] X.env = (false, eval e X.env) :: starEach [e2] X.env := by rfl) (hpl : (backTo pos (starEach [e2] X.env)).any (·.1) = false := by rfl) :
    PI X (.Tuple elts kk tpos) (.Call (.Name "zip" p) [e, e2] [] pos) (tId c (fiA zipOf f)) := by
  refine pimono (RZ.pi_zipA hg hm ha hs hpl) fun σ H Q h => ?_
  obtain ⟨G, S, R, ok, ts, S1, e1, k1⟩ := fiA_read h
  refine ⟨G, S, R, ok, ts, S1, e1, fun G1 vs H1 s1 h1 ok1 => ?_⟩
  obtain ⟨G2, S2, R2, rs, ds, L, ok2, rl, hv, e, k⟩ := k1 G1 vs H1 s1 h1 ok1
  unfold zipOf at e
  split at e
  · obtain ⟨v, w, rfl, hw, hw'⟩ := views2 hv
    obtain ⟨es, e2, e⟩ := bind_ok e
    obtain ⟨es', e3, e⟩ := bind_ok e
    split at e
    · rename_i hkn
      rw [Bool.and_eq_true] at hkn
      obtain ⟨hk, hn⟩ := hkn
      cases e
      obtain ⟨a, us, rfl, hq, hd⟩ := seqSh_ok hw e2
      obtain ⟨b, us', rfl, hq', hd'⟩ := seqSh_ok hw' e3
      rw [← hK]
      refine ⟨a, b, us, us', rfl, ?_⟩
      rcases hq with ⟨z, hq⟩ | ⟨z, hq⟩
      · rcases hq' with ⟨z', hq'⟩ | ⟨z', hq'⟩
        · exact .inl ⟨.inl (.inl (rl.sub _ _ hq)), .inl (.inl (rl.sub _ _ hq')), k _ G2 H1 (Sub.refl _) ok2 (walk_zpL hq hq' hd hd' hn)⟩
        · rw [z, z'] at hk; cases hk
      · rcases hq' with ⟨z', hq'⟩ | ⟨z', hq'⟩
        · rw [z, z'] at hk; cases hk
        · exact .inr ⟨SqT.sub rl.sub hq, SqT.sub rl.sub hq', k _ G2 H1 (Sub.refl _) ok2 (walk_zpT hq hq' hd hd' hn)⟩
    · cases e
  · cases e
end
end O
set_option maxRecDepth 100000
set_option maxHeartbeats 1000000
namespace HT
open PySem PySem.Spec PyProof.Rows L2
section
variable {prog : Program} {w : World} {A : Around} {E : Value → Shared → Prop} {s : Shared}
theorem places_rev (n : Nat) : Builtin.Slice.slicePlaces ((n : Int) - 1) (-1) (-1) = n := by
  unfold Builtin.Slice.slicePlaces
  have h1 : ¬ ((-1 : Int) > 0) := by omega
  simp only [h1, if_false]
  split
  · have : ((n : Int) - 1 - -1 - 1) / (- -1) + 1 = (n : Int) := by
      have e : (- -1 : Int) = 1 := by omega
      rw [e, Int.ediv_one]; omega
    first
      | (simp only [Int.neg_neg, Int.ediv_one]; omega)
      | omega
  · omega
theorem sliceApplied_rev {sl : Addr} {vl vu : Value} {t : Tok} {n : Nat} {Q : Int × Int × Nat → Shared → Prop} (hs : s.heap.IsSliceOf sl vl vu (.int (-1) t)) (pl : IsPart vl none) (pu : IsPart vu none)
    (h : Q ((n : Int) - 1, -1, n) s) : wpAny (model prog w) A (Builtin.Slice.sliceApplied (.ref sl) (pure (n : Int))) Q E s := by
  obtain ⟨os, hos, hcs, hds⟩ := id hs
  unfold Builtin.Slice.sliceApplied Builtin.Slice.sliceFields
  refine wpAny_bind (wpAny_bind (wpAny_field hos hds (x := vl) rfl (wpAny_bind (wpAny_field hos hds (x := vu) rfl (wpAny_bind (wpAny_field hos hds (x := .int (-1) t) rfl (wpAny_pure ?_)))))))
  refine wpAny_bind (slicePart_ (.int (-1) t) ?_)
  show wpAny _ _ (if ((-1 : Int) == 0) = true then _ else _) _ _ s
  rw [if_neg (by decide)]
  refine wpAny_bind (slicePart_ pl (wpAny_bind (slicePart_ pu (wpAny_bind (wpAny_pure ?_)))))
  show wpAny _ _ (match Builtin.Slice.sliceAdjust none none (-1) (n : Int) with | (lo, hi) => pure (lo, (-1 : Int), Builtin.Slice.slicePlaces lo hi (-1))) _ _ s
  have e : Builtin.Slice.sliceAdjust none none (-1) (n : Int) = ((n : Int) - 1, -1) := by
    unfold Builtin.Slice.sliceAdjust
    rfl
  rw [e]
  show wpAny _ _ (pure ((n : Int) - 1, (-1 : Int), Builtin.Slice.slicePlaces ((n : Int) - 1) (-1) (-1))) _ _ s
  rw [places_rev]
  exact wpAny_pure h
theorem fm_congr {α β : Type} {f g : α → Option β} : ∀ (l : List α), (∀ x ∈ l, f x = g x) → l.filterMap f = l.filterMap g
  | [], _ => rfl
  | a :: l, h => by
    rw [List.filterMap_cons, List.filterMap_cons, h a List.mem_cons_self, fm_congr l fun x hx => h x (List.mem_cons_of_mem _ hx)]
theorem pick_rev (xs : Array Value) : ((List.range xs.size).filterMap fun (m : Nat) => xs[(((xs.size : Int) - 1) + (m : Int) * (-1)).toNat]?).toArray = xs.toList.reverse.toArray := by
  have e : (List.range xs.size).filterMap (fun (m : Nat) => xs[(((xs.size : Int) - 1) + (m : Int) * (-1)).toNat]?) = ((List.range xs.size).map (fun k => xs.size - 1 - k)).filterMap (xs[·]?) := by
    rw [List.filterMap_map]
    refine fm_congr _ fun m hm => ?_
    have hm := List.mem_range.mp hm
    have e1 : (((xs.size : Int) - 1) + (m : Int) * (-1)).toNat = xs.size - 1 - m := by omega
    show xs[(((xs.size : Int) - 1) + (m : Int) * (-1)).toNat]? = xs[xs.size - 1 - m]?
    rw [e1]
  rw [e, PySem.W.krv_range, List.filterMap_reverse, PySem.W.krv_all]
theorem getItem_tuple_rev {t sl : Addr} {items : Array Value} {vl vu : Value} {u : Tok} {Q : Value → Shared → Prop} (ht : IsTup s.heap t items) (hs : s.heap.IsSliceOf sl vl vu (.int (-1) u)) (pl : IsPart vl none) (pu : IsPart vu none)
    (h : Q (.ref s.heap.objs.size) { s with heap := s.heap.push { cls := .type "tuple", data := .seq items.toList.reverse.toArray } })
    (hsz : items.size ≤ sizeLine) : wpAny (model prog w) A (getItem (.ref t) (.ref sl)) Q E s := by
  have htake : sizeOk (.seq items.toList.reverse.toArray) := by
    show items.toList.reverse.toArray.size ≤ sizeLine
    rw [List.size_toArray, List.length_reverse, Array.length_toList]
    omega
  obtain ⟨os, hos, hcs, hds⟩ := id hs
  have hTs : s.TypeIs (.ref sl) "slice" := ⟨os, hos, hcs⟩
  unfold getItem
  try with_reducible refine wpAny_holding ?_
  first | refine wpAny_bind (wpAny_pure ?_) | skip
  refine wpAny_bind (wpAny_sequenceKey ht.typeIs (by decide) ?_)
  refine wpAny_bind (wpAny_callSpecial?_slot (name := Str.ofString "__getitem__") ht.typeIs PyProof.Rows.slot_tuple_getitem
    (wpAny_call_entry PyProof.Rows.slot_tuple_getitem ht.typeIs entry_tuple_getitem ?_ (args_tuple_getitem _ _)))
  show wpAny _ _ (Builtin.Tuple.tupleItemsOf (.ref t) >>= _) _ _ s
  refine wpAny_bind (tupleItemsOf_ ht ?_)
  refine wpAny_bind (wpAny_typeOf hTs ?_)
  rw [if_pos (by decide)]
  refine wpAny_bind (sliceApplied_rev hs pl pu ?_)
  have hno : ¬ ((((items.size : Int) - 1) == 0 && (-1 : Int) == 1 && items.size == items.size) = true) := by
    rw [show ((-1 : Int) == 1) = false from rfl, Bool.and_false, Bool.false_and]
    exact Bool.false_ne_true
  show wpAny _ _ (if (((items.size : Int) - 1) == 0 && (-1 : Int) == 1 && items.size == items.size) = true then _ else _) _ _ s
  rw [if_neg hno, pick_rev]
  first
    | exact wpAny_bind (m := Builtin.Tuple.tupleExact _) (wpAny_newObj_type (wpAny_pure ⟨_, rfl, wpAny_pure h⟩) htake)
    | exact wpAny_bind (m := Builtin.Tuple.tupleExact _) (wpAny_newObj_type (wpAny_bind (wpAny_pure (wpAny_pure ⟨_, rfl, wpAny_pure h⟩))) htake)
    | exact wpAny_bind (wpAny_bind (m := Builtin.Tuple.tupleExact _) (wpAny_newObj_type (wpAny_pure (wpAny_pure ⟨_, rfl, wpAny_pure h⟩)) htake))
    | exact wpAny_bind (wpAny_bind (m := Builtin.Tuple.tupleExact _) (wpAny_newObj_type (wpAny_pure ⟨_, rfl, wpAny_pure h⟩) htake))
end
end HT

namespace O
open PySem PySem.Spec PyProof.Rows L2
/-! ### a[i] -/
def itemOf (r : MV) (i : Int) : M MV := match r with
  | (.sh, .list ds) => match atI ds i with
    | some d => .ok (.sh, d)
    | none => stk
  | (.ow .sh, .list ds) => match atI ds i with
    | some d => .ok (.sh, d)
    | none => stk
  | (.sh, .tuple ds) => match atI ds i with
    | some d => .ok (.sh, d)
    | none => stk
  | (.bo, .list ds) => match atI ds i with
    | some d => .ok (.bo, d)
    | none => stk
  | (.bo, .tuple ds) => match atI ds i with
    | some d => .ok (.bo, d)
    | none => stk
  | (.bx, .list (_ :: ds)) => if 1 ≤ i then match ds[(i - 1).toNat]? with
    | some d => .ok (.sh, d)
    | none => stk else stk
  | (_, .str x) => if x.length ≤ sizeLine then match atI x.cps.toList i with
    | some k => .ok (.sh, .str ⟨#[k]⟩)
    | none => stk else stk
  | _ => stk
def semIx : Sem2 := fun a b => match b.2 with
  | .int i => itemOf a i
  | _ => stk
section
variable {X : Cx} {c : Gh}
theorem atI_dq {K : PySem.W.Frag} {G : Hp} {vs : List V} {ds : List D} {i : Int} {d : D} (h : DqAll K G vs ds) (e : atI ds i = some d) : ∃ v, atI vs i = some v ∧ Dq K G v d := by
  unfold atI at e ⊢
  rw [h.length]
  cases hx : ixN ds.length i with
  | none => rw [hx] at e; cases e
  | some j =>
    rw [hx] at e
    exact h.get e
theorem ix_core (hK : c.K = X.K) : IxR X (r2D c semIx) := by
  intro value slice pins s σ H x y v u Q I rx ry h hs
  obtain ⟨G, L, ra, rb, r, rl, va, vb, e, k⟩ := h
  obtain ⟨n, d'⟩ := rb
  unfold semIx at e
  simp only at e
  split at e
  · rename_i i
    have hy := int_of rl vb
    subst hy
    have goL : ∀ a vs w, x = .ref a → SqL X.K H a vs → atI vs i = some w → Q w H → _ := fun a vs w e1 e2 e3 e4 => ix_list value slice pins s σ H x (.int i) v u Q I rx ry ⟨a, vs, i, w, e1, rfl, e2, e3, e4⟩ hs
    have goT : ∀ a vs w, x = .ref a → SqT X.K H a vs → atI vs i = some w → Q w H → _ := fun a vs w e1 e2 e3 e4 => ix_tup value slice pins s σ H x (.int i) v u Q I rx ry ⟨a, vs, i, w, e1, rfl, e2, e3, e4⟩ hs
    unfold itemOf at e
    split at e
    · split at e
      · rename_i hat
        cases e
        cases sh_dq va with
        | lst a b =>
          obtain ⟨w, h1, h2⟩ := atI_dq b hat
          exact goL _ _ w rfl (.inl (.inl (rl.sub _ _ a))) h1 (k G w H (Sub.refl G) (rl.put_sh h2))
      · cases e
    · split at e
      · rename_i hat
        cases e
        obtain ⟨F, va⟩ := va
        obtain ⟨a, vs, ds, rfl, h2, h3, h4, _⟩ := of_rep_ow va
        cases h2
        obtain ⟨w, h1, h2⟩ := atI_dq h4 hat
        exact goL _ _ w rfl (.inl (.inl h3)) h1 (k G w H (Sub.refl G) (rl.put_sh h2))
      · cases e
    · split at e
      · rename_i hat
        cases e
        cases sh_dq va with
        | tup a b =>
          obtain ⟨w, h1, h2⟩ := atI_dq b hat
          exact goT _ _ w rfl (by rw [← hK]; exact SqT.sub rl.sub a) h1 (k G w H (Sub.refl G) (rl.put_sh h2))
      · cases e
    · split at e
      · rename_i hat
        cases e
        obtain ⟨F, va⟩ := va
        have va : Dq c.K (un G c.B) x _ := va.2
        cases va with
        | lst a b =>
          obtain ⟨w, h1, h2⟩ := atI_dq b hat
          exact goL _ _ w rfl (.inl (.inl ((rl.sub.of_un rl.subB) _ _ a))) h1 (k G w H (Sub.refl G) (rl.put_bo h2))
      · cases e
    · split at e
      · rename_i hat
        cases e
        obtain ⟨F, va⟩ := va
        have va : Dq c.K (un G c.B) x _ := va.2
        cases va with
        | tup a b =>
          obtain ⟨w, h1, h2⟩ := atI_dq b hat
          exact goT _ _ w rfl (by rw [← hK]; exact SqT.sub (rl.sub.of_un rl.subB) a) h1 (k G w H (Sub.refl G) (rl.put_bo h2))
      · cases e
    · split at e
      · rename_i h1
        split at e
        · rename_i hat
          cases e
          obtain ⟨F, va⟩ := va
          obtain ⟨p, q, vs, ws, ds', es', rfl, hd, h3, h4, h5, h6, _⟩ := va
          cases hd
          obtain ⟨w, h7, h8⟩ := h5.get hat
          have hn : (i - 1).toNat < vs.length := lt_of_get h7
          refine goL p (.ref q :: vs) w rfl (.inl (.inl h3)) ?_ (k G w H (Sub.refl G) (rl.put_sh h8))
          have e1 : i = (((i - 1).toNat + 1 : Nat) : Int) := by omega
          rw [e1]
          exact atI_nat (by simpa using h7)
        · cases e
      · cases e
    · split at e
      · rename_i hl
        split at e
        · rename_i hat
          cases e
          have hx := str_of rl va
          subst hx
          exact ix_str value slice pins s σ H _ (.int i) v u Q I rx ry ⟨_, i, _, rfl, rfl, hl, hat, k G _ H (Sub.refl G) (rl.put_sh (.str _))⟩ hs
        · cases e
      · cases e
    · cases e
  · cases e
theorem de_ix {a b : Expr} {oa ob : FO} {pos : Pos} (hK : c.K = X.K) (ha : PE X a (tO c oa)) (hb : PE X b (tO c ob)) (hs : PlainIx b := by exact fun _ _ => rfl) : PE X (.Subscript a b pos) (tE c (fOp2 semIx oa ob)) :=
  pemono (pe_ix (ix_core hK) ha hb hs) fun _ _ _ h => op2_read h
/-! ### slices -/
abbrev FPt := SS → M (Option Int × SS)
def tPt (c : Gh) (f : FPt) : TO := fun σ H Q => ∃ G S R, SOk c G H σ S R ∧ ∃ o S', f S = .ok (o, S') ∧ ∀ G' H', Sub G G' → SOk c G' H' σ S' R → Q o H'
def fPN : FPt := fun S => .ok (none, S)
def fPS (f : FE) : FPt := fun S => do
  let (r, S1) ← f S
  match r.2 with
  | .int i => pure (some i, S1)
  | _ => stk
theorem pomono {e : Option Expr} {t t' : TO} (h : PO X e t) (k : ∀ σ H Q, t' σ H Q → t σ H Q) : PO X e t' := ⟨fun pins s σ H Q I q => h.run pins s σ H Q I (k σ H Q q)⟩
theorem dp_none : PO X none (tPt c fPN) := pomono po_none fun σ H Q h => by
  obtain ⟨G, S, R, ok, o, S', e, k⟩ := h
  cases e
  exact k G H (Sub.refl G) ok
theorem dp_some {e : Expr} {f : FE} (h : PE X e (tE c f)) : PO X (some e) (tPt c (fPS f)) := pomono (po_some h) fun σ H Q h => by
  obtain ⟨G, S, R, ok, o, S', e, k⟩ := h
  obtain ⟨⟨⟨m, d⟩, S1⟩, e1, e⟩ := bind_ok e
  simp only at e
  split at e
  · cases e
    refine ⟨G, S, R, ok, _, _, e1, fun G' v H' s ok' => ?_⟩
    exact ⟨_, int_of ok'.rel (ok'.rel.view (m := m) List.mem_cons_self), k G' H' s ⟨ok'.cov, ok'.rel.drop⟩⟩
  · cases e
def cutD {α : Type} (xs : List α) (lo hi : Option Int) : List α := (xs.drop (HT.sIx xs.length 0 lo)).take (HT.sIx xs.length xs.length hi - HT.sIx xs.length 0 lo)
def cutOf (r : MV) (lo hi : Option Int) : M MV := match r with
  | (_, .str x) => if x.length ≤ sizeLine then .ok (.sh, .str (L2.cutS x lo hi)) else stk
  | (.sh, .tuple ds) => .ok (.sh, .tuple (cutD ds lo hi))
  | r => match r.2 with
    | .list _ => do
      let ds ← kids r
      pure (.ow .sh, .list (cutD ds lo hi))
    | _ => stk
theorem DqAll.cut {K : PySem.W.Frag} {G : Hp} {vs : List V} {ds : List D} (h : DqAll K G vs ds) (lo hi : Option Int) : DqAll K G (cutV vs lo hi) (cutD ds lo hi) := by
  unfold cutV cutD
  rw [h.length]
  exact (h.drop _).take _
theorem cutV_whole {vs : List V} {lo hi : Option Int} (h : HT.sIx vs.length 0 lo = 0 ∧ HT.sIx vs.length vs.length hi = vs.length) : cutV vs lo hi = vs := by
  unfold cutV
  rw [h.1, h.2]; simp
theorem cutD_whole {vs : List V} {ds : List D} {K : PySem.W.Frag} {G : Hp} {lo hi : Option Int} (b : DqAll K G vs ds) (h : HT.sIx vs.length 0 lo = 0 ∧ HT.sIx vs.length vs.length hi = vs.length) : cutD ds lo hi = ds := by
  unfold cutD
  rw [← b.length, h.1, h.2, b.length]; simp
def rSlD (c : Gh) : V → Option Int → Option Int → Hp → VK → Prop := fun x lo hi H Q => ∃ G L ra r, Rel c G H L ∧ View c G H ra x ∧ cutOf ra lo hi = .ok r ∧ ∀ G' v H', Sub G G' → Rel c G' H' ((r.1, v, r.2) :: L) → Q v H'
theorem sl_core (hK : c.K = X.K) : SlR X (rSlD c) := by
  intro pins s σ H x v vl vu lo hi sl Q I rx hs pl pu h
  obtain ⟨G, L, ra, r, rl, va, e, k⟩ := h
  unfold cutOf at e
  split at e
  · split at e
    · rename_i hl
      cases e
      have hx := str_of rl va
      subst hx
      exact L2.sl_str pins s σ H _ v vl vu lo hi sl Q I rx hs pl pu ⟨_, rfl, hl, k G _ H (Sub.refl G) (rl.put_sh (.str _))⟩
    · cases e
  · cases e
    cases sh_dq va with
    | tup a b f =>
      rename_i ad vs
      have hq : SqT X.K H ad vs := by rw [← hK]; exact SqT.sub rl.sub a
      refine sl_tupF pins s σ H _ v vl vu lo hi sl Q I rx hs pl pu ⟨_, _, rfl, hq, fun hw => ?_, fun hw => new_tup_end rl (b.cut lo hi) k⟩
      refine k G _ H (Sub.refl G) (rl.put_sh ?_)
      dsimp only
      rw [cutD_whole b hw]
      exact .tup a b f
  · split at e
    · obtain ⟨ds, e1, e⟩ := bind_ok e
      cases e
      obtain ⟨m, d⟩ := ra
      rename_i hd
      cases hd
      obtain ⟨a, vs, rfl, h1, h2⟩ := kids_list rl va e1
      exact sl_list pins s σ H _ v vl vu lo hi sl Q I rx hs pl pu ⟨a, vs, rfl, .inl (.inl h1), new_lst_end rl (h2.cut lo hi) k⟩
    · cases e
def fSl (o : FO) (l h : FPt) : FE := fun S => do
  let (t, S1) ← o S
  let (a, S2) ← l S1
  let (b, S3) ← h S2
  let r ← tkGet t S3
  let z ← cutOf r a b
  pure (z, S3)
theorem de_slice {e : Expr} {lo hi : Option Expr} {o : FO} {l h : FPt} {p2 pos : Pos} (hK : c.K = X.K) (he : PE X e (tO c o)) (hl : PO X lo (tPt c l)) (hh : PO X hi (tPt c h)) : PE X (.Subscript e (.Slice lo hi none p2) pos) (tE c (fSl o l h)) := by
  refine pemono (pe_slice (sl_core hK) he hl hh) fun σ H Q q => ?_
  obtain ⟨G, S, R, ok, r, S', e, k⟩ := q
  obtain ⟨⟨t, S1⟩, e1, e⟩ := bind_ok e
  obtain ⟨⟨a, S2⟩, e2, e⟩ := bind_ok e
  obtain ⟨⟨b, S3⟩, e3, e⟩ := bind_ok e
  obtain ⟨r0, e4, e⟩ := bind_ok e
  obtain ⟨z, e5, e⟩ := bind_ok e
  cases e
  refine ⟨G, S, R, ok, t, S1, e1, fun G1 v H1 s1 h1 ok1 => ⟨G1, S1, _, ok1, a, S2, e2, fun G2 H2 s2 ok2 => ⟨G2, S2, _, ok2, b, _, e3, fun G3 H3 s3 ok3 => ?_⟩⟩⟩
  refine ⟨G3, _, r0, r, ok3.rel, tk_view (R := R) ok3 (fun x hx => List.mem_append_left _ hx) h1 e4, e5, fun G' w H' s rl => ?_⟩
  exact k G' w H' (((s1.trans s2).trans s3).trans s) ⟨ok3.cov, rl.sublist (List.Sublist.cons_cons _ (List.Sublist.append_right (List.sublist_append_right _ _) _))⟩
/-! ### x[::-1] -/
def revOf (r : MV) : M MV := match r with
  | (.sh, .tuple ds) => .ok (.sh, .tuple ds.reverse)
  | r => match r.2 with
    | .list _ => do
      let ds ← kids r
      pure (.ow .sh, .list ds.reverse)
    | _ => stk
def tRevT (K : PySem.W.Frag) (te : TE) : TE := fun σ H Q => te σ H fun x H1 => ∃ a xs, x = .ref a ∧ SqT K H1 a xs ∧ NewT H1 Q xs.reverse
theorem pe_revT {e : Expr} {te : TE} {k : Nat} {p1 p2 p3 pos : Pos} (he : PE X e te) : PE X (.Subscript e (.Slice none none (some (.UnaryOp .USub (.Constant (.int 1) k p1) p2)) p3) pos) (tRevT X.K te) := by
  refine ⟨fun pins s σ H Q I h => ?_⟩
  refine Subscript_ (thn (he.run pins s σ H _ I h) fun v s1 ⟨x, H1, I1, r1, q1⟩ => ?_)
  obtain ⟨a, xs, ex, hx, q⟩ := q1
  subst ex
  cases r1
  have hst : PO X (some (.UnaryOp .USub (.Constant (.int 1) k p1) p2)) (tPart (tUn (rU fun i => .int (-i)) (tC (.int 1)))) := po_some (pe_un un_neg pe_int)
  refine wpAny_Slice (thn (po_none.run pins s1 σ H1 (fun o H2 => o = none ∧ H2 = H1) I1 ⟨rfl, rfl⟩) fun vl s2 ⟨l, H2, I2, pl, el, e2⟩ => ?_)
  subst el e2
  refine thn (po_none.run pins s2 σ H2 (fun o H3 => o = none ∧ H3 = H2) I2 ⟨rfl, rfl⟩) fun vu s3 ⟨u, H3, I3, pu, eu, e3⟩ => ?_
  subst eu e3
  refine thn (hst.run pins s3 σ H3 (fun o H4 => o = some (-1) ∧ H4 = H3) I3 ⟨1, rfl, -1, rfl, rfl, rfl⟩) fun vs s4 ⟨o, H4, I4, ps, eo, e4⟩ => ?_
  subst eo e4
  have I5 : Inv X pins σ H4 { s4 with heap := s4.heap.push { cls := .type "slice", data := .fields #[vl, vu, vs] } } := I4.kept (t' := s4.toks) fun b ob q => Heap.get?_push_of_some _ q
  obtain ⟨its, r, ht, hz⟩ := I5.tuple hx
  have hlen := r.length
  show wpAny (model X.prog X.w) X.A (subscriptTail e (.Slice none none (some (.UnaryOp .USub (.Constant (.int 1) k p1) p2)) p3) (.ref a) (.ref s4.heap.objs.size)) (EP X pins σ Q) X.xe { s4 with heap := s4.heap.push { cls := .type "slice", data := .fields #[vl, vu, vs] } }
  cases ps with
  | int i t =>
    refine tail_any (ops := [.ref a, .ref s4.heap.objs.size]) ht.typeIs (PyProof.Rows.slot_tuple_getitem.lookup) ?_ (by with_unfolding_all rfl)
    refine HT.getItem_tuple_rev ht (Heap.IsSliceOf.new _ vl vu (.int (-1) t)) pl pu ?_ (by rw [List.size_toArray]; omega)
    exact laidF I5 (by rw [List.length_reverse]; exact hz) r.reverse q
def fRev (o : FO) : FE := fun S => do
  let (t, S1) ← o S
  let r ← tkGet t S1
  let z ← revOf r
  pure (z, S1)
theorem de_rev {e : Expr} {o : FO} {k : Nat} {p1 p2 p3 pos : Pos} (hK : c.K = X.K) (he : PE X e (tO c o)) : PE X (.Subscript e (.Slice none none (some (.UnaryOp .USub (.Constant (.int 1) k p1) p2)) p3) pos) (tE c (fRev o)) := by
  refine ⟨fun pins s σ H Q I q => ?_⟩
  obtain ⟨G, S, R, ok, r, S', e, k⟩ := q
  obtain ⟨⟨t, S1⟩, e1, e⟩ := bind_ok e
  obtain ⟨r0, e4, e⟩ := bind_ok e
  obtain ⟨z, e5, e⟩ := bind_ok e
  cases e
  have base : ∀ (P : V → Hp → Prop), (∀ G' v H' L, Sub G G' → Rel c G' H' L → View c G' H' r0 v → (∀ G2 w H2, Sub G' G2 → Rel c G2 H2 ((r.1, w, r.2) :: L) → Q w H2) → P v H') → tO c o σ H P := fun P hP => by
    refine ⟨G, S, R, ok, t, _, e1, fun G1 v H1 s1 h1 ok1 => ?_⟩
    refine hP G1 v H1 _ s1 ok1.rel (tk_view (R := R) ok1 (fun x hx => List.mem_append_left _ hx) h1 e4) fun G2 w H2 s2 rl => ?_
    exact k G2 w H2 (s1.trans s2) ⟨ok1.cov, rl.sublist (List.Sublist.cons_cons _ (List.Sublist.append_right (List.sublist_append_right _ _) _))⟩
  unfold revOf at e5
  split at e5
  · cases e5
    refine (pe_revT he).run pins s σ H Q I (base _ fun G' v H' L s' rl va k => ?_)
    cases sh_dq va with
    | tup a b =>
      rename_i ad vs
      exact ⟨_, _, rfl, by rw [← hK]; exact SqT.sub rl.sub a, new_tup_end rl b.rev k⟩
  · split at e5
    · obtain ⟨ds, e6, e5⟩ := bind_ok e5
      cases e5
      refine (pe_revL he).run pins s σ H Q I (base _ fun G' v H' L s' rl va k => ?_)
      obtain ⟨m, d⟩ := r0
      rename_i hd
      cases hd
      obtain ⟨a, vs, rfl, h1, h2⟩ := kids_list rl va e6
      exact ⟨a, vs, rfl, .inl (.inl h1), new_lst_end rl h2.rev k⟩
    · cases e5
end
end O
set_option maxRecDepth 100000
set_option maxHeartbeats 1000000
namespace O
open PySem PySem.Spec PyProof.Rows L2
section
variable {X : Cx} {c : Gh} {P : List Nat}
/-! ### an owned list in a slot is written -/
theorem SOk.put' {G G' H H' : Hp} {σ : L2.St} {S : SS} {R L : List T3} {i : Nat} {m m' : Md} {d d' : D} {v : V} (ok : SOk c G H σ S R) (e : S[i]? = some (some (m, d))) (hv : σ[i]? = some (some v)) (rl : Rel c G' H' ((m', v, d') :: L)) (hL : (R ++ prs σ (S.set i none)).Sublist L) : SOk c G' H' σ (S.set i (some (m', d'))) R :=
  SOk.put ok.cov hv (lt_of_get e) (rl.sublist (List.Sublist.cons_cons _ hL))
abbrev SemM := List D → List MV → M (List D × MV)
def lstAt (S : SS) (i : Nat) : M (List D) := match S[i]? with
  | some (some (.ow .sh, .list ds)) => .ok ds
  | _ => stk
theorem lstAt_ok {S : SS} {i : Nat} {ds : List D} (h : lstAt S i = .ok ds) : S[i]? = some (some (.ow .sh, .list ds)) := by
  unfold lstAt at h
  split at h
  · rename_i e; cases h; exact e
  · cases h
def rMt (c : Gh) (sem : SemM) : V → List V → Hp → VK → Prop := fun x vs H Q => ∃ G L rs ds ds' r, Rel c G H ((.ow .sh, x, .list ds) :: L) ∧ Views c G H rs vs ∧ sem ds rs = .ok (ds', r) ∧
  ∀ G' v H', Sub G G' → Rel c G' H' ((r.1, v, r.2) :: (.ow .sh, x, .list ds') :: L) → Q v H'
def fMt (i : Nat) (sem : SemM) (f : FA) : FE := fun S => do
  let _ ← lstAt S i
  let (ts, S1) ← f S
  let ds ← lstAt S1 i
  let rs ← tkGets ts S1
  let (ds', r) ← sem ds rs
  pure (r, S1.set i (some (.ow .sh, .list ds')))
theorem mt_read {i : Nat} {sem : SemM} {f : FA} {σ : L2.St} {H : Hp} {Q : VK} (hK : c.K = X.K) (h : tE c (fMt i sem f) σ H Q) : tBM X.K "list" (rMt c sem) (tO c (oP i)) (tA c f) σ H Q := by
  obtain ⟨G, S, R, ok, r, S', e, k⟩ := h
  obtain ⟨d0, e0, e⟩ := bind_ok e
  obtain ⟨⟨ts, S1⟩, e1, e⟩ := bind_ok e
  obtain ⟨ds, e2, e⟩ := bind_ok e
  obtain ⟨rs, e3, e⟩ := bind_ok e
  obtain ⟨⟨ds', r'⟩, e4, e⟩ := bind_ok e
  cases e
  have z0 := lstAt_ok e0
  refine ⟨G, S, R, ok, .slot i, S, by unfold oP; rw [z0], fun G1 v H1 s1 h1 ok1 => ⟨?_, ?_⟩⟩
  · obtain ⟨w, hw, rl⟩ := ok1.slot z0
    have h1 : σ[i]? = some (some v) := h1
    rw [hw] at h1; cases h1
    obtain ⟨a, vs, ds1, rfl, _, h3, _⟩ := rl.ow_of
    exact .inl ⟨rfl, vs, .inl (.inl h3)⟩
  · refine ⟨G1, S, R, ok1, ts, S1, e1, fun G2 vs H2 s2 h2 ok2 => ?_⟩
    have z2 := lstAt_ok e2
    obtain ⟨w, hw, rl⟩ := ok2.slot z2
    have h1 : σ[i]? = some (some v) := h1
    rw [hw] at h1; cases h1
    refine ⟨G2, _, rs, ds, ds', r, rl, tks_views ok2 (fun x hx => List.mem_append_left _ hx) h2 e3, e4, fun G' u H' s rl' => ?_⟩
    refine k G' u H' ((s1.trans s2).trans s) ?_
    have rl2 := rl'.perm (List.Perm.swap _ _ _)
    refine SOk.put ok2.cov hw (lt_of_get z2) (rl2.sublist (List.Sublist.cons_cons _ ?_))
    exact List.Sublist.cons_cons _ (List.Sublist.append_right (List.sublist_append_right _ _) _)
theorem mt_read0 {i : Nat} {sem : SemM} {σ : L2.St} {H : Hp} {Q : VK} (hK : c.K = X.K) (h : tE c (fMt i sem aNil) σ H Q) : tBM0 X.K "list" (rMt c sem) (tO c (oP i)) σ H Q := by
  obtain ⟨G, S, R, ok, t, S', e, k⟩ := mt_read (X := X) hK h
  refine ⟨G, S, R, ok, t, S', e, fun G1 v H1 s1 h1 ok1 => ?_⟩
  obtain ⟨h2, G2, S2, R2, ok2, ts, S3, e2, k2⟩ := k G1 v H1 s1 h1 ok1
  cases e2
  exact ⟨h2, k2 G2 [] H1 (Sub.refl _) .nil ok2⟩
theorem de_mt {name : Str} {id : String} {sem : SemM} {i : Nat} {x : Str} {e : Expr} {es : List Expr} {f : FA} {p apos cpos : Pos} (hK : c.K = X.K) (slot : Slot "list" name id) (hty : typeOf (.builtin id) = pure (.type "method_descriptor")) (hm : MtR X id (rMt c sem))
    (ha : PA X (e :: es) (tA c f)) (hN : X.N[i]? = some x := by rfl) (hv : Vis X.env.scope x := by first | exact Or.inl rfl | exact Or.inr (Or.inl rfl) | exact Or.inr (Or.inr rfl)) (hd : (x == ("__debug__" : Str)) = false := by decide) (hcd : (x == ("__classdict__" : Str)) = false := by decide)
    (hbase : attributeBase (.Name x p) name X.env (eval (.Name x p) X.env) = eval (.Name x p) X.env := by rfl)
    (hfew : ((backTo cpos (starEach (e :: es) X.env)).all (fun x => !x.1) && (backToKw cpos (keywordEach [] X.env)).all (fun x => x.1.isSome)
      && decide ((e :: es).length + ([] : List Keyword).length + (if ([] : List Keyword).isEmpty then 0 else 1) < 30)) = true := by rfl)
    (hline : (apos.endLine == cpos.line) = true := by rfl) (hs : starEach (e :: es) X.env = (false, eval e X.env) :: starEach es X.env := by rfl) (hplain : (backTo cpos (starEach es X.env)).any (·.1) = false := by rfl) :
    PE X (.Call (.Attribute (.Name x p) name apos) (e :: es) [] cpos) (tE c (fMt i sem f)) :=
  pemono (pe_bm PySem.F.plainAttrs_list slot hty hm (do_pk hN hv hd hcd) ha hbase hfew hline hs hplain) fun _ _ _ h => mt_read hK h
theorem de_mt0 {name : Str} {id : String} {sem : SemM} {i : Nat} {x : Str} {p apos cpos : Pos} (hK : c.K = X.K) (slot : Slot "list" name id) (hty : typeOf (.builtin id) = pure (.type "method_descriptor")) (hm : MtR X id (rMt c sem))
    (hN : X.N[i]? = some x := by rfl) (hv : Vis X.env.scope x := by first | exact Or.inl rfl | exact Or.inr (Or.inl rfl) | exact Or.inr (Or.inr rfl)) (hd : (x == ("__debug__" : Str)) = false := by decide) (hcd : (x == ("__classdict__" : Str)) = false := by decide)
    (hbase : attributeBase (.Name x p) name X.env (eval (.Name x p) X.env) = eval (.Name x p) X.env := by rfl) (hline : (apos.endLine == cpos.line) = true := by rfl) :
    PE X (.Call (.Attribute (.Name x p) name apos) [] [] cpos) (tE c (fMt i sem aNil)) :=
  pemono (pe_bm0 PySem.F.plainAttrs_list slot hty hm (do_pk hN hv hd hcd) hbase hline) fun _ _ _ h => mt_read0 hK h
def semAppend : SemM := fun ds rs => match rs with
  | [(.sh, d)] => if ds.length < sizeLine then .ok (ds ++ [d], (.sh, .none)) else stk
  | _ => stk
theorem Rel.hold {G H : Hp} {m : Md} {v : V} {d e : D} {L : List T3} (rl : Rel c G H ((m, v, d) :: L)) : Rel c G H ((.sh, .non, .none) :: (m, v, d) :: L) := rl.put_sh .non
theorem m_append : MtR X "list.append" (rMt c semAppend) := by
  intro pins s σ H x vs v us Q I rx rv h
  obtain ⟨G, L, rs, ds, ds', r, rl, hv, e, k⟩ := h
  unfold semAppend at e
  split at e
  · split at e
    · rename_i hl
      cases e
      obtain ⟨w, rfl, hw⟩ := views1 hv
      obtain ⟨a, vs, ds1, rfl, hd, h3, h4⟩ := rl.ow_of
      cases hd
      exact mt_append pins s σ H _ _ v us Q I rx rv ⟨a, vs, w, rfl, rfl, h3, by rw [h4.length]; exact hl, k G _ _ (Sub.refl G) ((rl.write (h4.app (.cons (sh_dq hw) .nil))).put_sh .non)⟩
    · cases e
  · cases e
def semExtend : SemM := fun ds rs => match rs with
  | [r] => do
    let es ← kidsL r
    if ds.length + es.length ≤ sizeLine then pure (ds ++ es, (.sh, .none)) else stk
  | _ => stk
theorem m_extend : MtR X "list.extend" (rMt c semExtend) := by
  intro pins s σ H x vs v us Q I rx rv h
  obtain ⟨G, L, rs, ds, ds', r, rl, hv, e, k⟩ := h
  unfold semExtend at e
  split at e
  · obtain ⟨es, e1, e⟩ := bind_ok e
    split at e
    · rename_i hl
      cases e
      obtain ⟨w, rfl, hw⟩ := views1 hv
      obtain ⟨b, us', rfl, h1, h2⟩ := kidsL_ok rl hw e1
      obtain ⟨a, vs, ds1, rfl, hd, h3, h4⟩ := rl.ow_of
      cases hd
      exact mt_extend pins s σ H _ _ v us Q I rx rv ⟨a, b, vs, us', rfl, rfl, h3, h1, by rw [h4.length, h2.length]; exact hl, k G _ _ (Sub.refl G) ((rl.write (h4.app h2)).put_sh .non)⟩
    · cases e
  · cases e
def semPop : SemM := fun ds rs => match rs with
  | [] => match ds.getLast? with
    | some d => .ok (ds.dropLast, (.sh, d))
    | none => stk
  | [r] => match r.2 with
    | .int i => if small62 i then match ixN ds.length i with
      | some k => match ds[k]? with
        | some d => .ok (ds.eraseIdx k, (.sh, d))
        | none => stk
      | none => stk else stk
    | _ => stk
  | _ => stk
theorem DqAll.dropLast {K : PySem.W.Frag} {G : Hp} {vs : List V} {ds : List D} (h : DqAll K G vs ds) : DqAll K G vs.dropLast ds.dropLast := by
  rw [List.dropLast_eq_take, List.dropLast_eq_take, h.length]
  exact h.take _
theorem DqAll.erase {K : PySem.W.Frag} {G : Hp} : ∀ {vs : List V} {ds : List D} (i : Nat), DqAll K G vs ds → DqAll K G (vs.eraseIdx i) (ds.eraseIdx i)
  | _, _, _, .nil => .nil
  | _, _, 0, .cons _ t => t
  | _, _, i + 1, .cons h t => .cons h (DqAll.erase i t)
theorem m_pop : MtR X "list.pop" (rMt c semPop) := by
  intro pins s σ H x vs v us Q I rx rv h
  obtain ⟨G, L, rs, ds, ds', r, rl, hv, e, k⟩ := h
  obtain ⟨a, xs, ds1, rfl, hd, h3, h4⟩ := rl.ow_of
  cases hd
  unfold semPop at e
  split at e
  · split at e
    · rename_i d hl
      cases e
      cases hv
      rw [List.getLast?_eq_getElem?] at hl
      rw [← h4.length] at hl
      obtain ⟨w, h5, h6⟩ := h4.get hl
      exact mt_pop pins s σ H _ _ v us Q I rx rv ⟨a, xs, w, rfl, rfl, h3, h5, k G _ _ (Sub.refl G) ((rl.write h4.dropLast).put_sh h6)⟩
    · cases e
  · obtain ⟨w, rfl, hw⟩ := views1 hv
    rename_i r0
    obtain ⟨m, d⟩ := r0
    simp only at e
    split at e
    · split at e
      · rename_i hs
        split at e
        · rename_i j hj
          split at e
          · rename_i d hd
            cases e
            have hw := int_of rl hw
            subst hw
            obtain ⟨w, h5, h6⟩ := h4.get hd
            have hsm := small62_ok hs
            rw [← h4.length] at hj
            exact mt_popAt pins s σ H _ _ v us Q I rx rv ⟨a, xs, _, j, w, rfl, rfl, h3, by omega, by omega, (ixN_seq hj).1, h5, k G _ _ (Sub.refl G) ((rl.write (h4.erase j)).put_sh h6)⟩
          · cases e
        · cases e
      · cases e
    · cases e
  · cases e
def semReverse : SemM := fun ds rs => match rs with
  | [] => .ok (ds.reverse, (.sh, .none))
  | _ => stk
theorem m_reverse : MtR X "list.reverse" (rMt c semReverse) := by
  intro pins s σ H x vs v us Q I rx rv h
  obtain ⟨G, L, rs, ds, ds', r, rl, hv, e, k⟩ := h
  obtain ⟨a, xs, ds1, rfl, hd, h3, h4⟩ := rl.ow_of
  cases hd
  unfold semReverse at e
  split at e
  · cases e
    cases hv
    exact mt_reverse pins s σ H _ _ v us Q I rx rv ⟨a, xs, rfl, rfl, h3, k G _ _ (Sub.refl G) ((rl.write h4.rev).put_sh .non)⟩
  · cases e
/-- remove: of a list of ints -/
def semRemove : SemM := fun ds rs => match rs with
  | [r] => match r.2 with
    | .int k => do
      let ns ← intsOf ds
      if k ∈ ns then pure (ds.eraseIdx (ns.idxOf k), (.sh, .none)) else stk
    | _ => stk
  | _ => stk
theorem idxOf_at {k : Int} : ∀ {ns : List Int}, k ∈ ns → ns[ns.idxOf k]? = some k
  | [], h => by simp at h
  | a :: ns, h => by
    by_cases q : a = k
    · subst q; simp
    · have hh : k ∈ ns := by simpa [Ne.symm q] using h
      have e : (a :: ns).idxOf k = ns.idxOf k + 1 := by
        rw [List.idxOf_cons]
        rw [show (a == k) = false from beq_eq_false_iff_ne.mpr q]; rfl
      rw [e, List.getElem?_cons_succ]
      exact idxOf_at hh
theorem idxOf_first {ns : List Int} {k : Int} : ∀ m, m < ns.idxOf k → ns[m]? ≠ some k := fun m hm e => by
  have h1 := List.getElem?_eq_some_iff.mp e
  obtain ⟨w, h1⟩ := h1
  have := List.not_of_lt_findIdx (p := (· == k)) (xs := ns) (i := m) (by simpa [List.idxOf] using hm)
  simp [h1] at this
theorem erase_map {α β : Type} (f : α → β) : ∀ (l : List α) (i : Nat), (l.eraseIdx i).map f = (l.map f).eraseIdx i
  | [], _ => rfl
  | _ :: _, 0 => rfl
  | a :: l, i + 1 => by simp [erase_map f l i]
theorem m_remove : MtR X "list.remove" (rMt c semRemove) := by
  intro pins s σ H x vs v us Q I rx rv h
  obtain ⟨G, L, rs, ds, ds', r, rl, hv, e, k⟩ := h
  obtain ⟨a, xs, ds1, rfl, hd, h3, h4⟩ := rl.ow_of
  cases hd
  unfold semRemove at e
  split at e
  · obtain ⟨w, rfl, hw⟩ := views1 hv
    rename_i r0
    obtain ⟨m, d⟩ := r0
    simp only at e
    split at e
    · obtain ⟨ns, e1, e⟩ := bind_ok e
      split at e
      · rename_i hin
        cases e
        have hw := int_of rl hw
        subst hw
        have hx := ints_vals h4 e1
        subst hx
        refine mt_remove pins s σ H _ _ v us Q I rx rv ⟨a, ns, _, ns.idxOf _, rfl, rfl, h3, ?_, idxOf_first, ?_⟩
        · exact idxOf_at hin
        · rw [erase_map]
          exact k G _ _ (Sub.refl G) ((rl.write (h4.erase _)).put_sh .non)
      · cases e
    · cases e
  · cases e
/-! ### x[i] = .. -/
def gIxs (i : Nat) (oi : FO) : FG := fun r S => do
  let z ← giveR r
  let _ ← lstAt S i
  let (t, S1) ← oi S
  let ds ← lstAt S1 i
  let y ← tkGet t S1
  match y.2 with
  | .int k => match ixN ds.length k with
    | some j => pure (S1.set i (some (.ow .sh, .list (ds.set j z.2))))
    | none => stk
  | _ => stk
theorem dg_ix {i : Nat} {x : Str} {e : Expr} {oi : FO} {p pos : Pos} (hi : PE X e (tO c oi)) (hN : X.N[i]? = some x := by rfl) (hv : Vis X.env.scope x := by first | exact Or.inl rfl | exact Or.inr (Or.inl rfl) | exact Or.inr (Or.inr rfl)) (hd : (x == ("__debug__" : Str)) = false := by decide) (hcd : (x == ("__classdict__" : Str)) = false := by decide)
    (ha : ∀ v, assign (.Subscript (.Name x p) e pos) X.env v = (do
      let ov ← holding [v] (eval (.Name x p) X.env)
      let iv ← holding [v, ov] (eval e X.env)
      standAt pos
      holding [v, ov, iv] (setItem ov iv v)
      release [v, ov, iv] []) := by intro _; rfl) : PG X (.Subscript (.Name x p) e pos) (tGd c P (gIxs i oi)) := pgmono (pg_sub (do_pk (c := c) (i := i) hN hv hd hcd) hi set_list ha) fun v σ H Q h => by
  obtain ⟨G, S, R, r, ok, S', e, k⟩ := h
  obtain ⟨z, e0, e⟩ := bind_ok e
  obtain ⟨d0, e1, e⟩ := bind_ok e
  obtain ⟨⟨t, S1⟩, e2, e⟩ := bind_ok e
  obtain ⟨ds, e3, e⟩ := bind_ok e
  obtain ⟨y, e4, e⟩ := bind_ok e
  obtain ⟨hz, G0, s0, rl0⟩ := Rel.give ok.rel e0
  have ok0 : SOk c G0 H σ S ((.sh, v, r.2) :: R) := ⟨ok.cov, rl0⟩
  have z1 := lstAt_ok e1
  refine ⟨G0, S, _, ok0, .slot i, S, by unfold oP; rw [z1], fun G1 o H1 s1 h1 ok1 => ?_⟩
  refine ⟨G1, S, _, ok1, t, S1, e2, fun G2 w H2 s2 h2 ok2 => ?_⟩
  have z3 := lstAt_ok e3
  have hy := tk_view (R := tkR t w) ok2 (fun x hx => List.mem_append_left _ hx) h2 e4
  obtain ⟨m, d⟩ := y
  simp only at e
  split at e
  · split at e
    · rename_i kk _ j hj
      cases e
      have hw := int_of ok2.rel hy
      subst hw
      obtain ⟨ow, hw, rl⟩ := ok2.slot z3
      have h1 : σ[i]? = some (some o) := h1
      rw [hw] at h1; cases h1
      obtain ⟨a, xs, ds1, rfl, hd, h3, h4⟩ := rl.ow_of
      cases hd
      have hsh : Dq c.K G2 v z.2 := by
        have := ok2.rel.view (m := .sh) (v := v) (d := r.2) (by simp [tkR])
        rw [hz]
        exact sh_dq this
      refine ⟨a, xs, kk, j, rfl, rfl, h3, by rw [h4.length]; exact hj, ?_⟩
      have rl2 := rl.write (h4.set hsh j)
      refine k G2 σ _ ((s0.trans s1).trans s2) (Prot.refl σ) (SOk.put ok2.cov hw (lt_of_get z3) (rl2.sublist (List.Sublist.cons_cons _ (List.Sublist.append_right ?_ _))))
      exact ((List.sublist_cons_self _ _).trans (List.sublist_append_right _ _)).trans (List.sublist_append_right _ _)
    · cases e
  · cases e
theorem get_list {K : PySem.W.Frag} (hK : K = X.K) : PGet X (rIxL K) := by
  intro pins s σ H x y v u Q I rx ry h
  obtain ⟨p, xs, i, z, rfl, rfl, hq, he, q⟩ := h
  rw [hK] at hq
  cases rx
  obtain ⟨t, rfl⟩ := ry
  obtain ⟨its, r, pl, hz⟩ := I.list hq
  obtain ⟨j, h1, h2, h3, h4, h5⟩ := atI_get he
  obtain ⟨w, ew, rw'⟩ := r.get h2
  have hl := r.length
  have hn := line63
  have fin : EP X pins σ Q w s := ⟨z, H, I, rw', q⟩
  by_cases h0 : 0 ≤ i
  · have hj : i.toNat = j := by
      rw [seqIndex_of h0 h5] at h1
      exact Option.some.inj h1
    exact wpAny_getItem_list pl.isList h0 (by omega) (by rw [hj]; simpa using ew) fin
  · have hj : (i + (its.toArray.size : Int)).toNat = j := by
      rw [seqIndex_neg (by omega) h4] at h1
      rw [List.size_toArray, ← hl]
      exact Option.some.inj h1
    exact wpAny_getItem_list_neg pl.isList (by omega) (by rw [List.size_toArray] <;> omega) (by omega) (by rw [hj]; simpa using ew) fin
def sAugS (i : Nat) (oi : FO) (sem : Sem2) (oe : FO) : FS := fun S => do
  let _ ← lstAt S i
  let (t1, S1) ← oi S
  let ds1 ← lstAt S1 i
  let y ← tkGet t1 S1
  match y.2 with
  | .int k => match atI ds1 k with
    | some d => do
      let (t2, S2) ← oe S1
      let e ← tkGet t2 S2
      let r ← sem (.sh, d) e
      let z ← giveR r
      let ds2 ← lstAt S2 i
      match ixN ds2.length k with
      | some j => pure (.nx, S2.set i (some (.ow .sh, .list (ds2.set j z.2))))
      | none => stk
    | none => stk
  | _ => stk
theorem ds_augS {i : Nat} {x : Str} {ei e : Expr} {oi oe : FO} {sem : Sem2} {op : Operator} {p tpos pos : Pos} (hK : c.K = X.K) (hi : PE X ei (tO c oi)) (he : PE X e (tO c oe)) (hop : OpR X (inplaceOp op) (r2D c sem)) (hN : X.N[i]? = some x := by rfl) (hv : Vis X.env.scope x := by first | exact Or.inl rfl | exact Or.inr (Or.inl rfl) | exact Or.inr (Or.inr rfl)) (hd : (x == ("__debug__" : Str)) = false := by decide) (hcd : (x == ("__classdict__" : Str)) = false := by decide)
    (ha : ∀ ov iv new, augStore ei ov iv new = (do holding [new, ov, iv] (setItem ov iv new); release [new, ov, iv] []; pure .next) := by intros; rfl) : PS X (.AugAssign (.Subscript (.Name x p) ei tpos) op e pos) (tS c P (sAugS i oi sem oe)) := psmono (ps_augS (do_pk (c := c) (i := i) hN hv hd hcd) hi (get_list hK) he (tip := fun x y H Q => r2D c sem x y H Q) (fun pins s σ H x y v u Q I rx ry h => hop pins s σ H x y v u Q I rx ry h) set_list ha) fun Dn σ H h => by
  obtain ⟨G, S, R, ok, fl, S', e, k⟩ := h
  obtain ⟨d0, e0, e⟩ := bind_ok e
  obtain ⟨⟨t1, S1⟩, e1, e⟩ := bind_ok e
  obtain ⟨ds1, e2, e⟩ := bind_ok e
  obtain ⟨y, e3, e⟩ := bind_ok e
  have z0 := lstAt_ok e0
  refine ⟨G, S, _, ok, .slot i, S, by unfold oP; rw [z0], fun G1 o H1 s1 h1 ok1 => ?_⟩
  refine ⟨G1, S, _, ok1, t1, S1, e1, fun G2 w H2 s2 h2 ok2 => ?_⟩
  have hy := tk_view (R := tkR t1 w) ok2 (fun x hx => List.mem_append_left _ hx) h2 e3
  obtain ⟨m, d⟩ := y
  simp only at e
  split at e
  · split at e
    · rename_i kk _ d hat
      obtain ⟨⟨t2, S2⟩, e4, e⟩ := bind_ok e
      obtain ⟨ev, e5, e⟩ := bind_ok e
      obtain ⟨r, e6, e⟩ := bind_ok e
      obtain ⟨z, e7, e⟩ := bind_ok e
      obtain ⟨ds2, e8, e⟩ := bind_ok e
      have hw := int_of ok2.rel hy
      subst hw
      have z2 := lstAt_ok e2
      obtain ⟨ow, hw, rl⟩ := ok2.slot z2
      have h1 : σ[i]? = some (some o) := h1
      rw [hw] at h1; cases h1
      obtain ⟨a, xs, dsx, rfl, hd, h3, h4⟩ := rl.ow_of
      cases hd
      obtain ⟨u, h5, h6⟩ := atI_dq h4 hat
      refine ⟨a, xs, kk, u, rfl, rfl, .inl (.inl h3), h5, ?_⟩
      have ok3 : SOk c G2 H2 σ S1 ((.sh, u, d) :: (tkR t1 (.int kk) ++ (tkR (.slot i) (.ref a) ++ R))) := ⟨ok2.cov, ok2.rel.put_sh h6⟩
      refine ⟨G2, S1, _, ok3, t2, S2, e4, fun G3 q H3 s3 h7 ok4 => ?_⟩
      have vq := tk_view (R := tkR t2 q) ok4 (fun x hx => List.mem_append_left _ hx) h7 e5
      have vu : View c G3 H3 (.sh, d) u := ok4.rel.view (by simp)
      refine ⟨G3, _, _, ev, r, ok4.rel, vu, vq, e6, fun G4 nv H4 s4 rl4 => ?_⟩
      obtain ⟨hz, G5, s5, rl5⟩ := Rel.give rl4 e7
      have z8 := lstAt_ok e8
      have ok5 : SOk c G5 H4 σ S2 ((.sh, nv, r.2) :: (tkR t2 q ++ ((.sh, u, d) :: (tkR t1 (.int kk) ++ (tkR (.slot i) (.ref a) ++ R))))) := ⟨ok4.cov, rl5⟩
      obtain ⟨ow, hw', rl6⟩ := ok5.slot z8
      rw [hw] at hw'; cases hw'
      obtain ⟨a', xs', dsx, ea, hd, h3', h4'⟩ := rl6.ow_of
      cases ea; cases hd
      split at e
      · rename_i j hj
        cases e
        have hsh : Dq c.K G5 nv z.2 := by rw [hz]; exact rl5.sh_of
        refine ⟨a, xs', kk, j, rfl, rfl, h3', by rw [h4'.length]; exact hj, ?_⟩
        have rl7 := rl6.write (h4'.set hsh j)
        refine k G5 σ _ ((((s1.trans s2).trans s3).trans s4).trans s5) (Prot.refl σ) (SOk.put ok5.cov hw (lt_of_get z8) (rl7.sublist (List.Sublist.cons_cons _ (List.Sublist.append_right ?_ _))))
        refine (List.Sublist.trans ?_ (List.sublist_cons_self _ _))
        refine (List.Sublist.trans ?_ (List.sublist_append_right _ _))
        refine (List.Sublist.trans ?_ (List.sublist_cons_self _ _))
        refine (List.Sublist.trans ?_ (List.sublist_append_right _ _))
        exact List.sublist_append_right _ _
      · cases e
    · cases e
  · cases e
/-! ### methods that only read -/
def kindOk (T : String) : D → Bool
  | .str _ => T == "str"
  | .int _ => T == "int"
  | .list _ => T == "list"
  | _ => false
theorem kind_ty {T : String} {G H : Hp} {L : List T3} {r : MV} {v : V} (rl : Rel c G H L) (h : View c G H r v) (hk : kindOk T r.2 = true) (hK : c.K = X.K) : tyV X.K T v H := by
  obtain ⟨m, d⟩ := r
  have hd := h.dp rl (by cases d <;> first | rfl | cases hk)
  cases d with
  | str x => cases hd; exact eq_of_beq hk
  | int i => cases hd; exact eq_of_beq hk
  | list ds =>
    cases hd with
    | lst a b => exact .inl ⟨eq_of_beq hk, _, by rw [← hK]; exact a⟩
  | _ => cases hk
def fMv (T : String) (sem : SemN) (o : FO) (f : FA) : FE := fun S => do
  let (t, S1) ← o S
  let r0 ← tkGet t S1
  if kindOk T r0.2 then do
    let (ts, S2) ← f S1
    let r ← tkGet t S2
    let rs ← tkGets ts S2
    let z ← sem (r :: rs)
    pure (z, S2)
  else stk
def rMv (c : Gh) (sem : SemN) : V → List V → Hp → VK → Prop := fun x vs H Q => ∃ G L r0 rs r, Rel c G H L ∧ View c G H r0 x ∧ Views c G H rs vs ∧ sem (r0 :: rs) = .ok r ∧ ∀ G' v H', Sub G G' → Rel c G' H' ((r.1, v, r.2) :: L) → Q v H'
theorem mv_read {T : String} {sem : SemN} {o : FO} {f : FA} {σ : L2.St} {H : Hp} {Q : VK} (hK : c.K = X.K) (h : tE c (fMv T sem o f) σ H Q) : tBM X.K T (rMv c sem) (tO c o) (tA c f) σ H Q := by
  obtain ⟨G, S, R, ok, r, S', e, k⟩ := h
  obtain ⟨⟨t, S1⟩, e1, e⟩ := bind_ok e
  obtain ⟨r0, e2, e⟩ := bind_ok e
  split at e
  · rename_i hk
    obtain ⟨⟨ts, S2⟩, e3, e⟩ := bind_ok e
    obtain ⟨r1, e4, e⟩ := bind_ok e
    obtain ⟨rs, e5, e⟩ := bind_ok e
    obtain ⟨z, e6, e⟩ := bind_ok e
    cases e
    refine ⟨G, S, R, ok, t, S1, e1, fun G1 v H1 s1 h1 ok1 => ⟨?_, ?_⟩⟩
    · exact kind_ty ok1.rel (tk_view (R := R) ok1 (fun x hx => List.mem_append_left _ hx) h1 e2) hk hK
    · refine ⟨G1, S1, _, ok1, ts, _, e3, fun G2 vs H2 s2 h2 ok2 => ?_⟩
      refine ⟨G2, _, r1, rs, r, ok2.rel, tk_view (R := R) ok2 (fun x hx => List.mem_append_right _ (List.mem_append_left _ hx)) h1 e4, tks_views ok2 (fun x hx => List.mem_append_left _ hx) h2 e5, e6, fun G' w H' s rl => ?_⟩
      refine k G' w H' ((s1.trans s2).trans s) ⟨ok2.cov, rl.sublist (List.Sublist.cons_cons _ (List.Sublist.append_right ?_ _))⟩
      exact (List.sublist_append_right _ _).trans (List.sublist_append_right _ _)
  · cases e
theorem de_mv {T : String} {name : Str} {id : String} {sem : SemN} {oe e : Expr} {es : List Expr} {o : FO} {f : FA} {apos cpos : Pos} (hK : c.K = X.K) (pa : PlainAttrs T) (slot : Slot T name id) (hty : typeOf (.builtin id) = pure (.type "method_descriptor")) (hm : MtR X id (rMv c sem))
    (ho : PE X oe (tO c o)) (ha : PA X (e :: es) (tA c f))
    (hbase : attributeBase oe name X.env (eval oe X.env) = eval oe X.env := by rfl)
    (hfew : ((backTo cpos (starEach (e :: es) X.env)).all (fun x => !x.1) && (backToKw cpos (keywordEach [] X.env)).all (fun x => x.1.isSome)
      && decide ((e :: es).length + ([] : List Keyword).length + (if ([] : List Keyword).isEmpty then 0 else 1) < 30)) = true := by rfl)
    (hline : (apos.endLine == cpos.line) = true := by rfl) (hs : starEach (e :: es) X.env = (false, eval e X.env) :: starEach es X.env := by rfl) (hplain : (backTo cpos (starEach es X.env)).any (·.1) = false := by rfl) :
    PE X (.Call (.Attribute oe name apos) (e :: es) [] cpos) (tE c (fMv T sem o f)) :=
  pemono (pe_bm pa slot hty hm ho ha hbase hfew hline hs hplain) fun _ _ _ h => mv_read hK h
theorem de_mv0 {T : String} {name : Str} {id : String} {sem : SemN} {oe : Expr} {o : FO} {apos cpos : Pos} (hK : c.K = X.K) (pa : PlainAttrs T) (slot : Slot T name id) (hty : typeOf (.builtin id) = pure (.type "method_descriptor")) (hm : MtR X id (rMv c sem))
    (ho : PE X oe (tO c o)) (hbase : attributeBase oe name X.env (eval oe X.env) = eval oe X.env := by rfl) (hline : (apos.endLine == cpos.line) = true := by rfl) :
    PE X (.Call (.Attribute oe name apos) [] [] cpos) (tE c (fMv T sem o aNil)) :=
  pemono (pe_bm0 pa slot hty hm ho hbase hline) fun σ H Q h => by
    obtain ⟨G, S, R, ok, t, S', e, k⟩ := mv_read (X := X) hK h
    refine ⟨G, S, R, ok, t, S', e, fun G1 v H1 s1 h1 ok1 => ?_⟩
    obtain ⟨h2, G2, S2, R2, ok2, ts, S3, e2, k2⟩ := k G1 v H1 s1 h1 ok1
    cases e2
    exact ⟨h2, k2 G2 [] H1 (Sub.refl _) .nil ok2⟩
/-- l.index(x) -/
def semIndexL : SemN := fun rs => match rs with
  | [r, q] => match r.2 with
    | .list ds => if SeqAt.shaped (.list ds) && SeqAt.shaped q.2 then
        (if ds.any (fun z => PyData.eqv z q.2) then .ok (.sh, .int (ds.findIdx fun z => PyData.eqv z q.2 : Nat)) else stk) else stk
    | _ => stk
  | _ => stk
theorem m_indexL (hK : c.K = X.K) (hu : X.A.units + 65 < cLine) : MtR X "list.index" (rMv c semIndexL) := by
  intro pins s σ H x vs v us Q I rx rv h
  obtain ⟨G, L, r0, rs, r, rl, hx, hv, e, k⟩ := h
  obtain ⟨m, d⟩ := r0
  unfold semIndexL at e
  split at e
  · rename_i q hq
    cases hq
    simp only at e
    split at e
    · rename_i ds
      split at e
      · rename_i hc
        split at e
        · rename_i hany
          cases e
          rw [Bool.and_eq_true] at hc
          obtain ⟨y, rfl, hy⟩ := views1 hv
          have h1 := hx.dp rl
          have h2 := hy.dp rl (shaped_nd hc.2)
          rw [hK] at h1 h2
          have hlt : ds.findIdx (fun z => PyData.eqv z q.2) < ds.length := List.findIdx_lt_length_of_exists (by simpa using hany)
          cases h1 with
          | lst ha hb =>
            refine mt_indexD hu pins s σ H _ _ v us Q I rx rv ⟨_, y, q.2, ds, ds.findIdx (fun z => PyData.eqv z q.2), ds[ds.findIdx (fun z => PyData.eqv z q.2)], rfl, rfl, .lst ha hb, h2, hc.1, hc.2, List.getElem?_eq_getElem hlt, List.findIdx_getElem (w := hlt), fun j z hj hz => ?_, r2_end rl k rfl (.int _)⟩
            have := List.not_of_lt_findIdx hj
            rw [List.getElem?_eq_some_iff] at hz
            obtain ⟨w, hz⟩ := hz
            subst hz
            simpa using this
        · cases e
      · cases e
    · cases e
  · cases e
/-- l.count(x): ints -/
def semCountL : SemN := fun rs => match rs with
  | [r, q] => match q.2 with
    | .int i => do
      let ds ← kidsL r
      let ns ← intsOf ds
      pure (.sh, .int (ns.count i : Nat))
    | _ => stk
  | _ => stk
theorem m_countL : MtR X "list.count" (rMv c semCountL) := by
  intro pins s σ H x vs v us Q I rx rv h
  obtain ⟨G, L, r0, rs, r, rl, hx, hv, e, k⟩ := h
  unfold semCountL at e
  split at e
  · rename_i q hq
    cases hq
    obtain ⟨m, d⟩ := q
    simp only at e
    split at e
    · obtain ⟨ds, e1, e⟩ := bind_ok e
      obtain ⟨ns, e2, e⟩ := bind_ok e
      cases e
      obtain ⟨y, rfl, hy⟩ := views1 hv
      have hy := int_of rl hy
      subst hy
      obtain ⟨a, xs, rfl, h1, h2⟩ := kidsL_ok rl hx e1
      have := ints_vals h2 e2
      subst this
      exact mt_lcount pins s σ H _ _ v us Q I rx rv ⟨a, ns, _, rfl, rfl, .inl (.inl h1), r2_end rl k rfl (.int _)⟩
    · cases e
  · cases e
def semUpper : SemN := fun rs => match rs with
  | [r] => match r.2 with
    | .str x => if x.length ≤ 5592405 then .ok (.sh, .str (Txt.upper x)) else stk
    | _ => stk
  | _ => stk
theorem m_upper : MtR X "str.upper" (rMv c semUpper) := by
  intro pins s σ H x vs v us Q I rx rv h
  obtain ⟨G, L, r0, rs, r, rl, hx, hv, e, k⟩ := h
  obtain ⟨m, d⟩ := r0
  unfold semUpper at e
  split at e
  · rename_i hq
    cases hq
    simp only at e
    split at e
    · split at e
      · rename_i hl
        cases e
        cases hv
        exact mt_upper pins s σ H _ _ v us Q I rx rv ⟨_, str_of rl hx, rfl, hl, r2_end rl k rfl (.str _)⟩
      · cases e
    · cases e
  · cases e
def strsOf : List D → M (List Str)
  | [] => .ok []
  | .str b :: ds => do
    let bs ← strsOf ds
    pure (b :: bs)
  | _ => stk
theorem strs_vals {K : PySem.W.Frag} {G : Hp} : ∀ {ds : List D} {vs : List V} {bs : List Str}, DqAll K G vs ds → strsOf ds = .ok bs → vs = bs.map V.str := by
  intro ds
  induction ds with
  | nil => intro vs bs h e; cases h; cases e; rfl
  | cons d ds ih =>
    intro vs bs h e
    cases h with
    | cons h1 h2 =>
      cases d with
      | str b =>
        obtain ⟨bs', e1, e⟩ := bind_ok e
        cases e
        cases h1
        rw [ih h2 e1]; rfl
      | _ => cases e
def semJoin : SemN := fun rs => match rs with
  | [r, q] => match r.2 with
    | .str a => do
      let ds ← kidsL q
      let ys ← strsOf ds
      if (ys.map (·.length)).sum + ys.length * a.length ≤ 16777216 then pure (.sh, .str (Txt.join a ys)) else stk
    | _ => stk
  | _ => stk
theorem m_join : MtR X "str.join" (rMv c semJoin) := by
  intro pins s σ H x vs v us Q I rx rv h
  obtain ⟨G, L, r0, rs, r, rl, hx, hv, e, k⟩ := h
  obtain ⟨m, d⟩ := r0
  unfold semJoin at e
  split at e
  · rename_i q hq
    cases hq
    simp only at e
    split at e
    · obtain ⟨ds, e1, e⟩ := bind_ok e
      obtain ⟨ns, e2, e⟩ := bind_ok e
      split at e
      · rename_i hl
        cases e
        obtain ⟨y, rfl, hy⟩ := views1 hv
        obtain ⟨a, xs, rfl, h1, h2⟩ := kidsL_ok rl hy e1
        have := strs_vals h2 e2
        subst this
        exact mt_join pins s σ H _ _ v us Q I rx rv ⟨_, a, ns, str_of rl hx, rfl, .inl (.inl (.inl h1)), hl, r2_end rl k rfl (.str _)⟩
      · cases e
    · cases e
  · cases e
end
end O
set_option maxRecDepth 100000
set_option maxHeartbeats 1000000
namespace O
open PySem PySem.Spec PyProof.Rows L2

/-! ### slots set apart for a block -/
def msk (p : Nat → Bool) : Nat → SS → SS
  | _, [] => []
  | n, x :: S => (bif p n then x else none) :: msk p (n + 1) S
def mrg (p : Nat → Bool) : Nat → SS → SS → SS
  | n, x :: S, y :: T => (bif p n then x else y) :: mrg p (n + 1) S T
  | _, _, _ => []
theorem msk_len (p : Nat → Bool) : ∀ (n : Nat) (S : SS), (msk p n S).length = S.length
  | _, [] => rfl
  | n, _ :: S => by simp [msk, msk_len p (n + 1) S]
theorem mrg_len (p : Nat → Bool) : ∀ (n : Nat) (S T : SS), S.length = T.length → (mrg p n S T).length = T.length
  | _, [], [], _ => rfl
  | n, _ :: S, _ :: T, h => by simp [mrg, mrg_len p (n + 1) S T (by simpa using h)]
theorem msk_get (p : Nat → Bool) : ∀ (n i : Nat) (S : SS) (x : SV), (msk p n S)[i]? = some x → ∃ y, S[i]? = some y ∧ x = bif p (n + i) then y else none
  | _, _, [], _, h => by simp [msk] at h
  | n, 0, y :: S, x, h => by simp [msk] at h; exact ⟨y, rfl, by rw [← h]; rfl⟩
  | n, i + 1, y :: S, x, h => by
    simp [msk] at h
    obtain ⟨z, h1, h2⟩ := msk_get p (n + 1) i S x h
    exact ⟨z, by simpa using h1, by rw [h2, show n + (i + 1) = n + 1 + i from by omega]⟩
theorem mrg_get (p : Nat → Bool) : ∀ (n i : Nat) (S T : SS) (x : SV), (mrg p n S T)[i]? = some x → if p (n + i) = true then S[i]? = some x else T[i]? = some x
  | _, _, [], _, _, h => by simp [mrg] at h
  | _, _, _ :: _, [], _, h => by simp [mrg] at h
  | n, 0, y :: S, z :: T, x, h => by
    simp [mrg] at h
    simp only [Nat.add_zero, List.getElem?_cons_zero]
    cases hp : p n
    · rw [hp] at h; simp at h; simp [h]
    · rw [hp] at h; simp at h; simp [h]
  | n, i + 1, y :: S, z :: T, x, h => by
    simp [mrg] at h
    have := mrg_get p (n + 1) i S T x h
    rw [show n + (i + 1) = n + 1 + i by omega]
    simpa using this
theorem one_none (x : Option V) : one (x, none) = none := by cases x <;> rfl
theorem prs_msk (p : Nat → Bool) : ∀ (n : Nat) (σ : L2.St) (S : SS), (prs σ S).Perm (prs σ (msk p n S) ++ prs σ (msk (fun i => !p i) n S))
  | _, [], _ => by simp [prs]
  | _, _ :: _, [] => by simp [prs, msk]
  | n, v :: σ, x :: S => by
    have ih := prs_msk p (n + 1) σ S
    simp only [prs, msk, List.zip_cons_cons, List.filterMap_cons] at ih ⊢
    cases hp : p n
    · simp only [cond_false, cond_true, one_none, Bool.not_false]
      cases hx : one (v, x) with
      | none => exact ih
      | some t => exact (ih.cons t).trans List.perm_middle.symm
    · simp only [cond_true, cond_false, Bool.not_true, one_none]
      cases hx : one (v, x) with
      | none => exact ih
      | some t => exact ih.cons t
theorem msk_mrg (p : Nat → Bool) : ∀ (n : Nat) (S T : SS), S.length = T.length → msk p n (mrg p n S T) = msk p n S ∧ msk (fun i => !p i) n (mrg p n S T) = msk (fun i => !p i) n T
  | _, [], [], _ => ⟨rfl, rfl⟩
  | n, x :: S, y :: T, h => by
    obtain ⟨h1, h2⟩ := msk_mrg p (n + 1) S T (by simpa using h)
    simp only [mrg, msk, h1, h2]
    cases p n <;> simp
theorem msk_idem (p : Nat → Bool) : ∀ (n : Nat) (S : SS), msk p n (msk p n S) = msk p n S
  | _, [] => rfl
  | n, x :: S => by simp only [msk, msk_idem p (n + 1) S]; cases p n <;> simp
def inP (vs : List Nat) : Nat → Bool := fun i => vs.contains i
abbrev wipeS (vs : List Nat) (S : SS) : SS := msk (fun i => !inP vs i) 0 S
theorem prs_same : ∀ (σ τ : L2.St) (S : SS), σ.length = τ.length → (∀ (i : Nat) (x : Md × D), S[i]? = some (some x) → σ[i]? = τ[i]?) → prs σ S = prs τ S
  | [], [], _, _, _ => rfl
  | _ :: _, _ :: _, [], _, _ => by simp [prs]
  | v :: σ, w :: τ, x :: S, h, k => by
    have ih := prs_same σ τ S (by simpa using h) fun i y e => by simpa using k (i + 1) y (by simpa using e)
    simp only [prs, List.zip_cons_cons, List.filterMap_cons] at ih ⊢
    cases x with
    | none => rw [one_none, one_none]; exact ih
    | some r =>
      have e : v = w := by simpa using k 0 r rfl
      subst e
      rw [ih]
theorem wipeS_at {vs : List Nat} {S : SS} {i : Nat} {x : Md × D} (h : (wipeS vs S)[i]? = some (some x)) : S[i]? = some (some x) ∧ i ∉ vs := by
  obtain ⟨y, h1, h2⟩ := msk_get _ 0 i S _ h
  simp only [Nat.zero_add] at h2
  cases hq : inP vs i with
  | true => rw [hq] at h2; simp at h2
  | false =>
    rw [hq] at h2
    simp at h2
    subst h2
    exact ⟨h1, by simpa [inP] using hq⟩
theorem prs_wipe {vs : List Nat} {σ : L2.St} {S : SS} : prs (wipe σ vs) (wipeS vs S) = prs σ (wipeS vs S) :=
  prs_same _ _ _ (wipe_length σ vs) fun i x h => wipe_out (wipeS_at h).2
def stash (vs : List Nat) (σ : L2.St) (S : SS) : List T3 := prs σ (msk (inP vs) 0 S)
theorem nn (vs : List Nat) : (fun i => !(fun i => !inP vs i) i) = inP vs := by funext i; simp
theorem prs_split {vs : List Nat} {σ : L2.St} {S : SS} : (prs σ S).Perm (stash vs σ S ++ prs (wipe σ vs) (wipeS vs S)) := by
  have h := prs_msk (inP vs) 0 σ S
  rw [prs_wipe]
  exact h
theorem Cov.wip {vs : List Nat} {σ : L2.St} {S : SS} (h : Cov σ S) : Cov (wipe σ vs) (wipeS vs S) := by
  refine ⟨by rw [msk_len, wipe_length]; exact h.len, fun i x e => ?_⟩
  obtain ⟨h1, h2⟩ := wipeS_at e
  rw [wipe_out h2]
  exact h.at_ i x h1
section
variable {X : Cx} {c : Gh}
theorem SOk.wip {vs : List Nat} {G H : Hp} {σ : L2.St} {S : SS} {R : List T3} (h : SOk c G H σ S R) : SOk c G H (wipe σ vs) (wipeS vs S) (stash vs σ S ++ R) := by
  refine ⟨h.cov.wip, h.rel.perm ?_⟩
  refine ((prs_split (vs := vs)).append_left R).trans ?_
  rw [← List.append_assoc]
  exact List.perm_append_comm.append_right _
theorem Cov.unwip {vs : List Nat} {σ : L2.St} {S T : SS} (h : Cov σ S) (k : Cov (wipe σ vs) T) : Cov σ (mrg (inP vs) 0 S T) := by
  have hl : S.length = T.length := by rw [h.len, k.len, wipe_length]
  refine ⟨by rw [mrg_len _ _ _ _ hl, k.len, wipe_length], fun i x e => ?_⟩
  have := mrg_get _ 0 i S T _ e
  simp only [Nat.zero_add] at this
  split at this
  · exact h.at_ i x this
  · rename_i hq
    obtain ⟨v, hv⟩ := k.at_ i x this
    rw [wipe_out (by simpa [inP] using hq)] at hv
    exact ⟨v, hv⟩
theorem SOk.unwip {vs : List Nat} {G H G0 H0 : Hp} {σ : L2.St} {S T : SS} {R R0 L : List T3} (h : SOk c G0 H0 σ S R0) (k : SOk c G H (wipe σ vs) T (L ++ (stash vs σ S ++ R))) : SOk c G H σ (mrg (inP vs) 0 S T) (L ++ R) := by
  have hl : S.length = T.length := by rw [h.cov.len, k.cov.len, wipe_length]
  refine ⟨h.cov.unwip k.cov, ?_⟩
  obtain ⟨m1, m2⟩ := msk_mrg (inP vs) 0 S T hl
  have p : (prs σ (mrg (inP vs) 0 S T)).Perm (stash vs σ S ++ prs (wipe σ vs) (wipeS vs T)) := by
    have := prs_split (vs := vs) (σ := σ) (S := mrg (inP vs) 0 S T)
    unfold stash wipeS at this ⊢
    rw [m1, m2] at this
    exact this
  have sub : (prs (wipe σ vs) (wipeS vs T)).Sublist (prs (wipe σ vs) T) := by
    have q : ∀ (p : Nat → Bool) (n : Nat) (τ : L2.St) (U : SS), (prs τ (msk p n U)).Sublist (prs τ U) := by
      intro p n τ U
      induction τ generalizing n U with
      | nil => simp [prs]
      | cons v τ ih =>
        cases U with
        | nil => simp [prs, msk]
        | cons x U =>
          have ih := ih (n + 1) U
          simp only [prs, msk, List.zip_cons_cons, List.filterMap_cons] at ih ⊢
          cases p n
          · simp only [cond_false, one_none]
            cases one (v, x) with
            | none => exact ih
            | some t => exact ih.cons t
          · simp only [cond_true]
            cases one (v, x) with
            | none => exact ih
            | some t => exact ih.cons_cons t
    exact q _ 0 _ T
  have r2 := k.rel.sublist (List.Sublist.append_left sub _)
  refine r2.perm ?_
  rw [List.append_assoc, List.append_assoc, List.append_assoc]
  refine List.Perm.append_left L ?_
  refine List.Perm.trans ?_ (List.Perm.append_left R p.symm)
  rw [← List.append_assoc, ← List.append_assoc]
  exact List.perm_append_comm.append_right _
/-- the slots beyond vs -/
def outP (n : Nat) (vs : List Nat) : List Nat := (List.range n).filter fun i => !vs.contains i
theorem wipe_in {σ : L2.St} {i : Nat} : ∀ {vs : List Nat}, i ∈ vs → i < σ.length → (wipe σ vs)[i]? = some none
  | [], h, _ => by simp at h
  | v :: vs, h, hl => by
    unfold wipe
    by_cases e : v = i
    · subst e
      rw [List.getElem?_set_self (by rw [wipe_length]; exact hl)]
    · rw [List.getElem?_set_ne e]
      rcases List.mem_cons.mp h with q | q
      · exact absurd q.symm e
      · exact wipe_in q hl
theorem wipe_prot {n : Nat} {vs : List Nat} {σ σ2 : L2.St} (hn : σ.length = n) (h : Prot (outP n vs) (wipe σ vs) σ2) : wipe σ2 vs = wipe σ vs := by
  have hl : σ2.length = σ.length := by rw [h.1, wipe_length]
  refine List.ext_getElem? fun i => ?_
  by_cases hi : i < σ.length
  · by_cases hv : i ∈ vs
    · rw [wipe_in hv (by rw [hl]; exact hi), wipe_in hv hi]
    · rw [wipe_out hv]
      refine h.2 i ?_
      unfold outP
      rw [List.mem_filter]
      exact ⟨List.mem_range.mpr (by omega), by simpa using hv⟩
  · rw [List.getElem?_eq_none (by rw [wipe_length]; omega), List.getElem?_eq_none (by rw [wipe_length]; omega)]
/-! ### [e for x in it if ..] -/
def lcD (vs : List Nat) (g : FG) (tt : FT) (te : FE) : List D → List D → SS → M (List D × SS)
  | [], acc, S => .ok (acc, S)
  | d :: ds, acc, S => do
    let S1 ← g (.sh, d) S
    let (b, S2) ← tt S1
    if b then do
      let (r, S3) ← te S2
      let z ← giveR r
      if acc.length < sizeLine then lcD vs g tt te ds (acc ++ [z.2]) (wipeS vs S3) else stk
    else lcD vs g tt te ds acc (wipeS vs S2)
def fLc (n : Nat) (vs : List Nat) (fi : FI) (g : FG) (tt : FT) (te : FE) : FE := fun S => do
  let (ds, S1) ← fi S
  if S1.length = n then do
    let (acc, S2) ← lcD vs g tt te ds [] (wipeS vs S1)
    pure ((.ow .sh, .list acc), mrg (inP vs) 0 S1 S2)
  else stk
def ftYes : FT := fun S => .ok (true, S)
theorem ptsmono {es : List Expr} {t t' : TT} (h : PTs X es t) (k : ∀ σ H Q, t' σ H Q → t σ H Q) : PTs X es t' := ⟨fun pins s σ H Q I q => h.run pins s σ H Q I (k σ H Q q)⟩
theorem dts_nil : PTs X [] (tT c ftYes) := ptsmono pts_nil fun σ H Q h => by
  obtain ⟨G, S, R, ok, b, S', e, k⟩ := h
  cases e
  exact k G H (Sub.refl G) ok
theorem dts_one {e : Expr} {f : FT} (h : PT X e (tT c f)) : PTs X [e] (tT c f) := pts_one h
theorem SOk.swap {G H : Hp} {σ : L2.St} {S : SS} {a b : T3} {R : List T3} (h : SOk c G H σ S (a :: b :: R)) : SOk c G H σ S (b :: a :: R) := ⟨h.cov, h.rel.perm (.swap _ _ _)⟩
/-- a turn's end: the block's slots are forgotten -/
theorem SOk.rewip {vs : List Nat} {n : Nat} {G H : Hp} {σ σ2 : L2.St} {S : SS} {R : List T3} (hn : σ.length = n) (p : Prot (outP n vs) (wipe σ vs) σ2) (h : SOk c G H σ2 S R) : SOk c G H (wipe σ vs) (wipeS vs S) R := by
  have e := wipe_prot hn p
  have h2 := h.wip (vs := vs)
  rw [e] at h2
  exact ⟨h2.cov, h2.rel.sublist (List.Sublist.append_right (List.sublist_append_right _ _) _)⟩
theorem lc_read {n : Nat} {vs : List Nat} {fi : FI} {g : FG} {tt : FT} {te : FE} {σ : L2.St} {H : Hp} {Q : VK} (h : tE c (fLc n vs fi g tt te) σ H Q) : tLc (tId c fi) (tGd c (outP n vs) g) (tT c tt) (tE c te) vs σ H Q := by
  obtain ⟨G, S, R, ok, r, S', e, k⟩ := h
  obtain ⟨⟨ds, S1⟩, e1, e⟩ := bind_ok e
  by_cases hn : S1.length = n
  · dsimp only at e
    rw [if_pos hn] at e
    obtain ⟨⟨accf, S2f⟩, e2, e⟩ := bind_ok e
    cases e
    refine ⟨G, S, R, ok, ds, S1, e1, fun J G1 H1 s1 ok1 w => ?_⟩
    intro Da hD
    have hσ : σ.length = n := by rw [← ok1.cov.len]; exact hn
    have okw : SOk c G1 (upd H1 Da (.lst [])) (wipe σ vs) (wipeS vs S1) ((.ow .sh, .ref Da, .list []) :: (stash vs σ S1 ++ R)) := by
      have z := ok1.wip (vs := vs)
      exact ⟨z.cov, z.rel.new_lst hD .nil⟩
    refine ⟨fun i m H' => m = ds.length - i ∧ i ≤ ds.length ∧ ∃ G' T acc, Sub G1 G' ∧ SOk c G' H' (wipe σ vs) T ((.ow .sh, .ref Da, .list acc) :: (stash vs σ S1 ++ R)) ∧ lcD vs g tt te (ds.drop i) acc T = .ok (accf, S2f), ⟨_, rfl, Nat.zero_le _, G1, _, [], Sub.refl _, okw, e2⟩, ?_⟩
    rintro i m H' ⟨rfl, hle, G', T, acc, s2, ok2, e3⟩
    by_cases hlt : i < ds.length
    · refine .inr ⟨w.go G' H' i s2 ok2.sub hlt, fun H3 => ∃ G3 T3 acc3, Sub G1 G3 ∧ SOk c G3 H3 (wipe σ vs) T3 ((.ow .sh, .ref Da, .list acc3) :: (stash vs σ S1 ++ R)) ∧ lcD vs g tt te (ds.drop (i + 1)) acc3 T3 = .ok (accf, S2f), fun H3 h3 => ⟨ds.length - (i + 1), by omega, rfl, hlt, h3⟩, fun x H3 y => ?_⟩
      rw [List.drop_eq_getElem_cons hlt] at e3
      obtain ⟨T1, e4, e3⟩ := bind_ok e3
      obtain ⟨⟨b, T2⟩, e5, e3⟩ := bind_ok e3
      obtain ⟨G3, s3, ok3⟩ := yld_sh w s2 ok2 (List.getElem?_eq_getElem hlt) y
      refine ⟨G3, T, _, _, ok3, T1, e4, fun G4 σ4 H4 s4 p4 ok4 => ⟨wipe_prot hσ p4, G4, T1, _, ok4, b, T2, e5, fun G5 H5 s5 ok5 => ?_⟩⟩
      cases b with
      | false =>
        exact ⟨G5, _, acc, ((s2.trans s3).trans s4).trans s5, ok5.rewip hσ p4, e3⟩
      | true =>
        simp only [if_true] at e3 ⊢
        obtain ⟨⟨r, T3⟩, e6, e3⟩ := bind_ok e3
        obtain ⟨z, e7, e3⟩ := bind_ok e3
        split at e3
        · rename_i hsz
          refine ⟨G5, T2, _, ok5, r, T3, e6, fun G6 yv H6 s6 ok6 => ?_⟩
          obtain ⟨hz, G7, s7, rl7⟩ := Rel.give ok6.rel e7
          have ok7 : SOk c G7 H6 σ4 T3 ((.ow .sh, .ref Da, .list acc) :: (.sh, yv, r.2) :: (stash vs σ S1 ++ R)) := SOk.swap ⟨ok6.cov, rl7⟩
          have hy := rl7.sh_of
          obtain ⟨a, xs, dsx, ea, hd, h3, h4⟩ := Rel.ow_of ok7.rel
          cases ea
          cases hd
          refine ⟨xs, h3, by rw [h4.length]; exact hsz, G7, _, _, ((((s2.trans s3).trans s4).trans s5).trans s6).trans s7, SOk.rewip hσ p4 ⟨ok7.cov, ?_⟩, e3⟩
          rw [hz]
          have rl8 := Rel.write (show Rel c G7 H6 ((.ow .sh, .ref Da, .list acc) :: ((.sh, yv, r.2) :: (stash vs σ S1 ++ R) ++ prs σ4 T3)) from ok7.rel) (h4.app (.cons hy .nil))
          exact rl8.sublist (List.Sublist.cons_cons _ (List.Sublist.append_right (List.sublist_cons_self _ _) _))
        · cases e3
    · have ei : i = ds.length := by omega
      subst ei
      rw [List.drop_length] at e3
      cases e3
      refine .inl ⟨w.stop G' H' s2 ok2.sub, k G' _ H' (s1.trans s2) ?_⟩
      exact SOk.unwip (L := [(.ow .sh, .ref Da, .list accf)]) ok1 ok2
  · dsimp only at e
    rw [if_neg hn] at e
    cases e
theorem de_lc {n : Nat} {own : List (Str × Nat)} {vs : List Nat} {elt tg iter : Expr} {ifs : List Expr} {scope : Scope} {pos : Pos} {fi : FI} {g : FG} {tt : FT} {te : FE} (hc : X.calm = true) (hN : X.N.Nodup) (hi : PI X tg iter (tId c fi)) (ok : BlkOk X.N X.env.scope scope own)
    (hg : ∀ (s : Shared) (H : Hp) (C : Addr) (cl : List (Str × Addr)) (fp : List Addr), PG (X.blk s H scope (compEnvC scope cl C X.env) fp) tg (tGd c (outP n vs) g))
    (ht : ∀ (s : Shared) (H : Hp) (C : Addr) (cl : List (Str × Addr)) (fp : List Addr), PTs (X.blk s H scope (compEnvC scope cl C X.env) fp) ifs (tT c tt))
    (he : ∀ (s : Shared) (H : Hp) (C : Addr) (cl : List (Str × Addr)) (fp : List Addr), PE (X.blk s H scope (compEnvC scope cl C X.env) fp) elt (tE c te)) (hv : own.map (·.2) = vs := by rfl) (hs : ∀ x, foldedSetIterable iter X.env x = pure x := by intro _; rfl) :
    PE X (.ListComp elt [⟨tg, iter, ifs, 0⟩] scope pos) (tE c (fLc n vs fi g tt te)) := by
  subst hv
  exact pemono (pe_lc hc hN hi ok hg ht he hs) fun _ _ _ h => lc_read h
theorem ds_setLc {P : List Nat} {n : Nat} {own : List (Str × Nat)} {vs : List Nat} {i : Nat} {y : Str} {py : Pos} {elt tg iter : Expr} {ifs : List Expr} {scope : Scope} {pos spos : Pos} {fi : FI} {g : FG} {tt : FT} {te : FE} (hc : X.calm = true) (hN : X.N.Nodup) (hi : PI X tg iter (tId c fi)) (ok : BlkOk X.N X.env.scope scope own)
    (hg : ∀ (s : Shared) (H : Hp) (C : Addr) (cl : List (Str × Addr)) (fp : List Addr), PG (X.blk s H scope (compEnvC scope cl C X.env) fp) tg (tGd c (outP n vs) g))
    (ht : ∀ (s : Shared) (H : Hp) (C : Addr) (cl : List (Str × Addr)) (fp : List Addr), PTs (X.blk s H scope (compEnvC scope cl C X.env) fp) ifs (tT c tt))
    (he : ∀ (s : Shared) (H : Hp) (C : Addr) (cl : List (Str × Addr)) (fp : List Addr), PE (X.blk s H scope (compEnvC scope cl C X.env) fp) elt (tE c te))
    (hsw : swapsWith (.ListComp elt [⟨tg, iter, ifs, 0⟩] scope pos) (some (.Name y py)) spos.line X.env = pure true)
    (hy : X.N[i]? = some y := by rfl) (hyl : X.env.scope.names.lookup y = some .local := by rfl) (hP : P.all (fun j => j != i) = true := by rfl) (hv : own.map (·.2) = vs := by rfl) (hs : ∀ x, foldedSetIterable iter X.env x = pure x := by intro _; rfl) :
    PS X (.Assign [.Name y py] (.ListComp elt [⟨tg, iter, ifs, 0⟩] scope pos) spos) (tS c P (sAsg (gNm i) (fLc n vs fi g tt te))) := by
  subst hv
  refine psmono (ps_setLc hc hN hy hyl hsw hi ok hg ht he hs) fun D σ H h => ?_
  obtain ⟨G, S, R, ok, fl, S', e, k⟩ := h
  obtain ⟨⟨r, S1⟩, e1, e⟩ := bind_ok e
  obtain ⟨S2, e2, e⟩ := bind_ok e
  cases e2
  cases e
  exact lc_read (Q := fun v H' => gName i v σ H' D.nx) ⟨G, S, R, ok, r, S1, e1, fun G' v H' s ok' => k G' _ H' s (Prot.set hP) (ok'.store i)⟩
end
end O
set_option maxRecDepth 100000
set_option maxHeartbeats 1000000
namespace O
open PySem PySem.Spec PyProof.Rows L2

/-! ### defs: what they promise -/
def zp3 : List MV → List V → List T3
  | r :: rs, v :: vs => (r.1, v, r.2) :: zp3 rs vs
  | _, _ => []
abbrev SemF := List MV → M (MV × List MV)
/-- io: the parameters whose things come back -/
def spD (c : Gh) (n : Nat) (io : List Nat) (sem : SemF) : Sp := fun vs H Q _ => ∃ G R rs, Rel c G H (zp3 rs vs ++ R) ∧ rs.length = n ∧ vs.length = n ∧ ∃ r fs, sem rs = .ok (r, fs) ∧
  ∀ G' v H', Sub G G' → Rel c G' H' ((r.1, v, r.2) :: (zp3 fs (io.map (fun i => vs.getD i .non)) ++ R)) → Q v H'
def flR : Fl → M MV
  | .nx => .ok (.sh, .none)
  | .rt r => .ok r
  | _ => stk
def takesD : List Nat → SS → M (List MV)
  | [], _ => .ok []
  | i :: is, S => match S[i]? with
    | some (some r) => do
      let rs ← takesD is (S.set i none)
      pure (r :: rs)
    | _ => stk
def runD (m : Nat) (io : List Nat) (body : FS) : SemF := fun rs => do
  let (fl, S) ← body (rs.map some ++ List.replicate (m - rs.length) none)
  let r ← flR fl
  let fs ← takesD io S
  pure (r, fs)
section
variable {c : Gh}
theorem prs_start {m : Nat} : ∀ {rs : List MV} {vs : List V}, rs.length = vs.length → prs (vs.map some ++ List.replicate m none) (rs.map some ++ List.replicate m none) = zp3 rs vs
  | [], [], _ => by
    show prs (List.replicate m none) (List.replicate m none) = []
    induction m with
    | zero => rfl
    | succ m ih => simp only [prs, List.replicate_succ, List.zip_cons_cons, List.filterMap_cons, one_none] at ih ⊢; exact ih
  | r :: rs, v :: vs, h => by
    have ih := prs_start (m := m) (rs := rs) (vs := vs) (by simpa using h)
    simp only [prs, List.map_cons, List.cons_append, List.zip_cons_cons, List.filterMap_cons, zp3] at ih ⊢
    rw [ih]
    rfl
theorem cov_start {m : Nat} {rs : List MV} {vs : List V} (h : rs.length = vs.length) : Cov (vs.map some ++ List.replicate m none) (rs.map some ++ List.replicate m none) := by
  refine ⟨by simp [h], fun i x e => ?_⟩
  by_cases hi : i < rs.length
  · have hv : i < vs.length := by omega
    exact ⟨vs[i], by rw [List.getElem?_append_left (by simpa using hv)]; simp [hv]⟩
  · rw [List.getElem?_append_right (by simpa using hi)] at e
    rw [List.getElem?_replicate] at e
    split at e <;> simp at e
theorem takes_ok {G H : Hp} {σ : L2.St} {w : Nat → V} : ∀ {io : List Nat} {S : SS} {R : List T3} {fs : List MV}, SOk c G H σ S R → (∀ i ∈ io, σ[i]? = some (some (w i))) → takesD io S = .ok fs → ∃ S', SOk c G H σ S' (zp3 fs (io.map w) ++ R) := by
  intro io
  induction io with
  | nil => intro S R fs ok _ e; cases e; exact ⟨S, ok⟩
  | cons i is ih =>
    intro S R fs ok hw e
    simp only [takesD] at e
    split at e
    · rename_i r hS
      obtain ⟨rs, e1, e⟩ := bind_ok e
      cases e
      obtain ⟨v, hv, rl⟩ := ok.slot hS
      have hv' := hw i List.mem_cons_self
      rw [hv] at hv'
      have hv' : v = w i := by simpa using hv'
      subst hv'
      obtain ⟨S', ok'⟩ := ih (R := (r.1, w i, r.2) :: R) ⟨ok.cov.none i, rl⟩ (fun j hj => hw j (List.mem_cons_of_mem _ hj)) e1
      refine ⟨S', ok'.cov, ok'.rel.perm ?_⟩
      rw [List.append_assoc]
      show (zp3 rs (is.map w) ++ ((r.1, w i, r.2) :: R ++ prs σ S')).Perm ((r.1, w i, r.2) :: zp3 rs (is.map w) ++ R ++ prs σ S')
      refine List.perm_middle.trans ?_
      simp
    · cases e
section
variable {P : Program} {w : World} {K : PySem.W.Frag} {mg : Str → Option Value} {base : Heap}
theorem ends_ok {G' H' : Hp} {σ0 σ' : L2.St} {S' : SS} {R : List T3} {n m : Nat} {io : List Nat} {vs : List V} {fs : List MV} {r : MV} {v : V} (hvs : vs.length = n) (hio : ∀ i ∈ io, i < n) (h0 : σ0 = vs.map some ++ List.replicate m none) (p : Prot io σ0 σ') (ok : SOk c G' H' σ' S' ((r.1, v, r.2) :: R)) (e : takesD io S' = .ok fs) :
    Rel c G' H' ((r.1, v, r.2) :: (zp3 fs (io.map (fun i => vs.getD i .non)) ++ R)) := by
  obtain ⟨S2, ok2⟩ := takes_ok (w := fun i => vs.getD i .non) ok (fun i hi => by
    rw [p.2 i hi, h0]
    have := hio i hi
    rw [List.getElem?_append_left (by simpa using (show i < vs.length by omega))]
    simp [show i < vs.length by omega]) e
  have := ok2.rel.sublist (List.sublist_append_left _ _)
  exact this.perm List.perm_middle
/-- a def keeps its promise by its body -/
theorem calD {x : Str} {st : Stmt} {f : Addr} {fd : FuncData} {N ps : List Str} {k n : Nat} {io : List Nat} {body : FS} (F : C8.Def K mg x st f fd) (b : Binds K fd ps []) (S : FnScope N ps (C8.fnScope st)) (hn : ps.length = n) (hio : ∀ i ∈ io, i < n)
    (hb : ∀ (cdv : Value) (A : Around) (outer : List Env) (s : Shared) (H : Hp) (E : XK), Room k (A.deeper (envOfC x (C8.fnScope st) s.heap.objs.size f cdv)) → PSs (cxOf C8.CX0 P w K mg base N x (C8.fnScope st) f cdv A outer s H E).nox (C8.fnBody st) (tS c io body)) :
    C8.Cal P w K mg base (k + 1) x (spD c n io (runD N.length io body)) [] := by
  refine C8.cal0 F b .nil S (fun vs H Q E h => ?_) fun cdv A outer s H vs Q E hr h => ⟨_, hb cdv A outer s H E hr, ?_⟩
  · obtain ⟨G, R, rs, _, _, hl, _⟩ := h
    rw [hl, hn]
  · obtain ⟨G, R, rs, rl, hl, hv, r, fs, e, k⟩ := h
    obtain ⟨⟨fl, S'⟩, e1, e⟩ := bind_ok e
    obtain ⟨r', e2, e⟩ := bind_ok e
    obtain ⟨fs', e3, e⟩ := bind_ok e
    cases e
    have hlv : rs.length = vs.length := by omega
    have e0 : L2.start N vs = vs.map some ++ List.replicate (N.length - rs.length) none := by unfold L2.start; rw [hlv]
    refine ⟨G, rs.map some ++ List.replicate (N.length - rs.length) none, R, ?_, fl, S', e1, ?_⟩
    · rw [e0]
      refine ⟨cov_start hlv, ?_⟩
      rw [prs_start hlv]
      exact rl.perm List.perm_append_comm
    · cases fl with
      | nx =>
        cases e2
        exact fun G' σ' H' s p ok => k G' .non H' s (ends_ok (r := (.sh, .none)) hv hio e0 p ⟨ok.cov, ok.rel.put_sh .non⟩ e3)
      | rt r =>
        cases e2
        exact fun G' v σ' H' s p ok => k G' v H' s (ends_ok hv hio e0 p ok e3)
      | bk => cases e2
      | ct => cases e2
end
/-! ### defs: their calls -/
def grab : List Tk → SS → M (List MV × SS)
  | [], S => .ok ([], S)
  | .val r :: ts, S => do
    let (rs, S1) ← grab ts S
    pure (r :: rs, S1)
  | .slot i :: ts, S => match S[i]? with
    | some (some r) => do
      let (rs, S1) ← grab ts (S.set i none)
      pure (r :: rs, S1)
    | _ => stk
def putB (ts : List Tk) : List Nat → List MV → SS → M SS
  | [], [], S => .ok S
  | j :: io, f :: fs, S => match ts[j]? with
    | some (.slot i) => if i < S.length then putB ts io fs (S.set i (some f)) else stk
    | some (.val _) => putB ts io fs S
    | none => stk
  | _, _, _ => stk
def fCall (n : Nat) (io : List Nat) (sem : SemF) (f : FA) : FE := fun S => do
  let (ts, S1) ← f S
  let (rs, S2) ← grab ts S1
  if rs.length = n then do
    let (r, fs) ← sem rs
    let S3 ← putB ts io fs S2
    pure (r, S3)
  else stk
theorem TkOks.len {σ : L2.St} : ∀ {ts : List Tk} {vs : List V}, TkOks σ ts vs → ts.length = vs.length
  | _, _, .nil => rfl
  | _, _, .cons _ t => by simp [TkOks.len t]
theorem grab_ok {G H : Hp} {σ : L2.St} : ∀ {ts : List Tk} {vs : List V} {S S2 : SS} {R : List T3} {rs : List MV}, TkOks σ ts vs → SOk c G H σ S (tkRs ts vs ++ R) → grab ts S = .ok (rs, S2) → SOk c G H σ S2 (zp3 rs vs ++ R) ∧ rs.length = vs.length ∧ S2.length = S.length := by
  intro ts
  induction ts with
  | nil => intro vs S S2 R rs h ok e; cases h; cases e; exact ⟨ok, rfl, rfl⟩
  | cons t ts ih =>
    intro vs S S2 R rs h ok e
    cases h with
    | cons h1 h2 =>
      rename_i v vs
      cases t with
      | val r =>
        obtain ⟨⟨rs', S1⟩, e1, e⟩ := bind_ok e
        cases e
        have q : (((r.1, v, r.2) :: (tkRs ts vs ++ R)) ++ prs σ S).Perm ((tkRs ts vs ++ ((r.1, v, r.2) :: R)) ++ prs σ S) := List.Perm.append_right _ List.perm_middle.symm
        have ok' : SOk c G H σ S (tkRs ts vs ++ ((r.1, v, r.2) :: R)) := ⟨ok.cov, ok.rel.perm q⟩
        obtain ⟨a, b, d⟩ := ih h2 ok' e1
        exact ⟨⟨a.cov, a.rel.perm (List.Perm.append_right _ List.perm_middle)⟩, by simp [b], d⟩
      | slot i =>
        simp only [grab] at e
        split at e
        · rename_i r hS
          obtain ⟨⟨rs', S1⟩, e1, e⟩ := bind_ok e
          cases e
          obtain ⟨w, hw, rl⟩ := ok.slot hS
          have h1 : σ[i]? = some (some v) := h1
          rw [hw] at h1
          have ew : w = v := by simpa using h1
          subst ew
          have q : (((r.1, w, r.2) :: (tkRs ts vs ++ R)) ++ prs σ (S.set i none)).Perm ((tkRs ts vs ++ ((r.1, w, r.2) :: R)) ++ prs σ (S.set i none)) := List.Perm.append_right _ List.perm_middle.symm
          have ok' : SOk c G H σ (S.set i none) (tkRs ts vs ++ ((r.1, w, r.2) :: R)) := ⟨ok.cov.none i, rl.perm q⟩
          obtain ⟨a, b, d⟩ := ih h2 ok' e1
          exact ⟨⟨a.cov, a.rel.perm (List.Perm.append_right _ List.perm_middle)⟩, by simp [b], by rw [d, List.length_set]⟩
        · cases e
theorem tkOks_get {σ : L2.St} : ∀ {ts : List Tk} {vs : List V} {j : Nat} {t : Tk}, TkOks σ ts vs → ts[j]? = some t → ∃ v, vs[j]? = some v ∧ tkOk σ t v
  | _, _, _, _, .nil, e => by simp at e
  | _, _, 0, _, .cons h _, e => by simp at e; subst e; exact ⟨_, rfl, h⟩
  | _, _, j + 1, _, .cons _ t, e => by simpa using tkOks_get (j := j) t (by simpa using e)
theorem prs_none_sub {σ : L2.St} : ∀ {S : SS} {i : Nat}, (prs σ (S.set i none)).Sublist (prs σ S) := by
  induction σ with
  | nil => intro S i; simp [prs]
  | cons v σ ih =>
    intro S i
    cases S with
    | nil => simp [prs]
    | cons x S =>
      cases i with
      | zero =>
        simp only [prs, List.set_cons_zero, List.zip_cons_cons, List.filterMap_cons, one_none]
        cases one (v, x) with
        | none => exact List.Sublist.refl _
        | some t => exact List.sublist_cons_self _ _
      | succ i =>
        have ih := ih (S := S) (i := i)
        simp only [prs, List.set_cons_succ, List.zip_cons_cons, List.filterMap_cons] at ih ⊢
        cases one (v, x) with
        | none => exact ih
        | some t => exact ih.cons_cons t
theorem putB_ok {G H : Hp} {σ : L2.St} {ts : List Tk} {vs : List V} (ht : TkOks σ ts vs) : ∀ {io : List Nat} {fs : List MV} {S S3 : SS} {R : List T3}, Cov σ S → Rel c G H (zp3 fs (io.map (fun i => vs.getD i .non)) ++ (R ++ prs σ S)) → putB ts io fs S = .ok S3 → SOk c G H σ S3 R := by
  intro io
  induction io with
  | nil =>
    intro fs S S3 R cv rl e
    cases fs with
    | nil => cases e; exact ⟨cv, rl⟩
    | cons => cases e
  | cons j io ih =>
    intro fs S S3 R cv rl e
    cases fs with
    | nil => cases e
    | cons f fs =>
      simp only [putB] at e
      split at e
      · rename_i i hj
        split at e
        · rename_i hi
          obtain ⟨v, hv, hs⟩ := tkOks_get ht hj
          have hs : σ[i]? = some (some v) := hs
          refine ih (cv.put hs) ?_ e
          have hg : vs.getD j .non = v := by simp [List.getD, hv]
          have rl : Rel c G H ((f.1, vs.getD j .non, f.2) :: (zp3 fs (io.map (fun i => vs.getD i .non)) ++ (R ++ prs σ S))) := rl
          rw [hg] at rl
          have p := prs_put (σ := σ) (S := S) (i := i) (v := v) (m := f.1) (d := f.2) (lt_of_get hs) hi
          rw [set_self hs] at p
          have rl2 := rl.sublist (List.Sublist.cons_cons _ (List.Sublist.append_left (List.Sublist.append_left (prs_none_sub (σ := σ) (S := S) (i := i)) R) (zp3 fs (io.map fun i => vs.getD i .non))))
          refine rl2.perm ?_
          rw [← List.append_assoc, ← List.append_assoc]
          exact List.perm_middle.symm.trans (List.Perm.append_left _ p.symm)
        · cases e
      · exact ih cv (rl.sublist (List.sublist_cons_self _ _)) e
      · cases e
variable {X : Cx}
theorem call_read {n : Nat} {io : List Nat} {sem : SemF} {f : FA} {E : XK} {σ : L2.St} {H : Hp} {Q : VK} (h : tE c (fCall n io sem f) σ H Q) : tCall (spD c n io sem) [] E (tA c f) σ H Q := by
  obtain ⟨G, S, R, ok, r, S', e, k⟩ := h
  obtain ⟨⟨ts, S1⟩, e1, e⟩ := bind_ok e
  obtain ⟨⟨rs, S2⟩, e2, e⟩ := bind_ok e
  dsimp only at e
  by_cases hl : rs.length = n
  · rw [if_pos hl] at e
    obtain ⟨⟨r', fs⟩, e3, e⟩ := bind_ok e
    obtain ⟨S3, e4, e⟩ := bind_ok e
    cases e
    refine ⟨G, S, R, ok, ts, S1, e1, fun G1 vs H1 s1 h1 ok1 => ?_⟩
    obtain ⟨ok2, hlen, hS⟩ := grab_ok h1 ok1 e2
    rw [List.append_nil]
    refine ⟨G1, R ++ prs σ S2, rs, by rw [← List.append_assoc]; exact ok2.rel, hl, by omega, r', fs, e3, fun G' v H' s rl => ?_⟩
    have rl2 : Rel c G' H' (zp3 fs (io.map (fun i => vs.getD i .non)) ++ (((r'.1, v, r'.2) :: R) ++ prs σ S2)) := rl.perm (by
      refine List.perm_middle.symm.trans ?_
      simp)
    exact k G' v H' (s1.trans s) (putB_ok h1 ok2.cov rl2 e4)
  · rw [if_neg hl] at e
    cases e
theorem de_call {k j n : Nat} {io : List Nat} {sem : SemF} {x : Str} {e : Expr} {es : List Expr} {f : FA} {p pos : Pos} (cl : C8.Cal X.prog X.w X.K X.mg X.base k x (spD c n io sem) []) (hr : Room j X.A) (hk : k ≤ j) (hg : Gl X x) (ha : PA X (e :: es) (tA c f))
    (hdb : (x == ("__debug__" : Str)) = false := by decide) (he : starEach (e :: es) X.env = (false, eval e X.env) :: starEach es X.env := by rfl) (hpl : (backTo pos (starEach es X.env)).any (·.1) = false := by rfl) :
    PE X (.Call (.Name x p) (e :: es) [] pos) (tE c (fCall n io sem f)) :=
  pemono (C8.pe_c cl hr hk hg ha hdb he hpl) fun _ _ _ h => call_read h
theorem de_call0 {k j n : Nat} {io : List Nat} {sem : SemF} {x : Str} {p pos : Pos} (cl : C8.Cal X.prog X.w X.K X.mg X.base k x (spD c n io sem) []) (hr : Room j X.A) (hk : k ≤ j) (hg : Gl X x)
    (hdb : (x == ("__debug__" : Str)) = false := by decide) :
    PE X (.Call (.Name x p) [] [] pos) (tE c (fCall n io sem aNil)) := by
  obtain ⟨f, fd, ps, ds, F, hm, kp, b, d⟩ := cl.ex
  refine pemono (pe_call0 F (hr.mono hk) hg hm kp b d C8.pass0 hdb (E := C8.E0)) fun σ H Q h => ?_
  obtain ⟨G, S, R, ok, ts, S1, e1, k1⟩ := call_read (E := C8.E0) h
  cases e1
  exact k1 G [] H (Sub.refl G) .nil ok
end
end O
set_option maxRecDepth 100000
set_option maxHeartbeats 1000000
namespace O
open PySem PySem.Spec PyProof.Rows L2
section
variable {X : Cx} {c : Gh} {a b d : Expr} {oa ob oc : FO} {pos : Pos}
/-! ### a op b op' c -/
def fChain (sem sem' : Sem2) (oa ob oc : FO) : FE := fun S => do
  let (ta, S1) ← oa S
  let (tb, S2) ← ob S1
  let ra ← tkGet ta S2
  let rb ← tkGet tb S2
  let r ← sem ra rb
  match r.2 with
  | .bool true => do
    let (tc, S3) ← oc S2
    let rb' ← tkGet tb S3
    let rc ← tkGet tc S3
    let z ← sem' rb' rc
    pure (z, S3)
  | .bool false => pure ((.sh, .bool false), S2)
  | _ => stk
theorem chain_read {sem sem' : Sem2} {σ : L2.St} {H : Hp} {Q : VK} (h : tE c (fChain sem sem' oa ob oc) σ H Q) : tChain (r2D c sem) (r2D c sem') (tO c oa) (tO c ob) (tO c oc) σ H Q := by
  obtain ⟨G, S, R, ok, r, S', e, k⟩ := h
  obtain ⟨⟨ta, S1⟩, e1, e⟩ := bind_ok e
  obtain ⟨⟨tb, S2⟩, e2, e⟩ := bind_ok e
  obtain ⟨ra, e3, e⟩ := bind_ok e
  obtain ⟨rb, e4, e⟩ := bind_ok e
  obtain ⟨r', e5, e⟩ := bind_ok e
  refine ⟨G, S, R, ok, ta, S1, e1, fun G1 x H1 s1 h1 ok1 => ?_⟩
  refine ⟨G1, S1, _, ok1, tb, S2, e2, fun G2 y H2 s2 h2 ok2 => ?_⟩
  refine ⟨G2, _, ra, rb, r', ok2.rel, tk_view (R := R) ok2 (fun t ht => List.mem_append_right _ (List.mem_append_left _ ht)) h1 e3, tk_view (R := R) ok2 (fun t ht => List.mem_append_left _ ht) h2 e4, e5, fun G3 v H3 s rl => ?_⟩
  obtain ⟨m, dd⟩ := r'
  dsimp only at e
  split at e
  · cases bool_of rl
    refine ⟨true, rfl, ?_⟩
    rw [if_pos rfl]
    obtain ⟨⟨tc, S3⟩, e6, e⟩ := bind_ok e
    obtain ⟨rb', e7, e⟩ := bind_ok e
    obtain ⟨rc, e8, e⟩ := bind_ok e
    obtain ⟨z, e9, e⟩ := bind_ok e
    cases e
    refine ⟨G3, S2, _, ⟨ok2.cov, rl.drop⟩, tc, _, e6, fun G4 w H4 s4 h4 ok4 => ?_⟩
    refine ⟨G4, _, rb', rc, r, ok4.rel, tk_view (R := R) ok4 (fun t ht => List.mem_append_right _ (List.mem_append_left _ ht)) h2 e7, tk_view (R := R) ok4 (fun t ht => List.mem_append_left _ ht) h4 e8, e9, fun G5 v H5 s5 rl5 => ?_⟩
    refine k G5 v H5 ((((s1.trans s2).trans s).trans s4).trans s5) ⟨ok4.cov, rl5.sublist (List.Sublist.cons_cons _ (List.Sublist.append_right ?_ _))⟩
    exact ((List.sublist_append_right _ _).trans (List.sublist_append_right _ _)).trans (List.sublist_append_right _ _)
  · cases bool_of rl
    cases e
    refine ⟨false, rfl, ?_⟩
    rw [if_neg Bool.false_ne_true]
    refine k G3 _ H3 ((s1.trans s2).trans s) ⟨ok2.cov, rl.drop.sublist ?_ |>.put_sh (.bl _)⟩
    exact List.Sublist.append_right ((List.sublist_append_right _ _).trans (List.sublist_append_right _ _)) _
  · cases e
theorem de_chain {op op' : CmpOp} {sem sem' : Sem2} (ho : OpR X (compareOp op) (r2D c sem)) (ho' : OpR X (compareOp op') (r2D c sem')) (ha : PE X a (tO c oa)) (hb : PE X b (tO c ob)) (hc : PE X d (tO c oc))
    (hm : lastMarks [op, op'] [b, d] = false := by with_unfolding_all rfl) : PE X (.Compare a [op, op'] [b, d] pos) (tE c (fChain sem sem' oa ob oc)) := pemono (pe_chain ho ho' ha hb hc hm) fun _ _ _ h => chain_read h
theorem dt_chain {op op' : CmpOp} {sem sem' : Sem2} (ho : OpR X (compareOp op) (r2D c sem)) (ho' : OpR X (compareOp op') (r2D c sem')) (ha : PE X a (tO c oa)) (hb : PE X b (tO c ob)) (hc : PE X d (tO c oc))
    (hm : lastMarks [op, op'] [b, d] = false := by with_unfolding_all rfl) : PT X (.Compare a [op, op'] [b, d] pos) (tT c (tB1 (fChain sem sem' oa ob oc))) := ptmono (pt_chain ho ho' ha hb hc hm) fun σ H Q h => by
  obtain ⟨G, S, R, ok, r, S1, e, k⟩ := tb_read h
  exact chain_read ⟨G, S, R, ok, r, S1, e, k⟩
end
/-! ### boot -/
theorem bt_len : bootBuiltins "len" = some (.builtin "len") := by decide +kernel
theorem bt_abs : bootBuiltins "abs" = some (.builtin "abs") := by decide +kernel
theorem bt_all : bootBuiltins "all" = some (.builtin "all") := by decide +kernel
theorem bt_any : bootBuiltins "any" = some (.builtin "any") := by decide +kernel
theorem bt_sum : bootBuiltins "sum" = some (.builtin "sum") := by decide +kernel
theorem bt_int : bootBuiltins "int" = some (.type "int") := by decide +kernel
theorem bt_bool : bootBuiltins "bool" = some (.type "bool") := by decide +kernel
theorem bt_str : bootBuiltins "str" = some (.type "str") := by decide +kernel
theorem bt_list : bootBuiltins "list" = some (.type "list") := by decide +kernel
theorem bt_tuple : bootBuiltins "tuple" = some (.type "tuple") := by decide +kernel
end O
set_option maxRecDepth 100000
set_option maxHeartbeats 1000000
namespace O
open PySem PySem.Spec PyProof.Rows L2
theorem hu {k : Nat} {A : Around} (r : Room k A) : A.units + 64 < cLine := by have := r.un; omega
theorem hu1 {k : Nat} {A : Around} (r : Room k A) : A.units + 65 < cLine := by have := r.un; omega
section
variable {X : Cx} {c : Gh} {P : List Nat} {pos : Pos}
/-! += -/
def semIAdd : Sem2 := fun a b => match a.2, b.2 with
  | .int i, .int j => .ok (.sh, .int (i + j))
  | _, _ => stk
theorem o_iadd (hK : c.K = X.K) : OpR X (inplaceOp .Add) (r2D c semIAdd) := by
  intro pins s σ H x y v u Q I rx ry h
  obtain ⟨G, L, ra, rb, r, rl, va, vb, e, k⟩ := h
  obtain ⟨m, d⟩ := ra
  obtain ⟨n, d'⟩ := rb
  unfold semIAdd at e
  simp only at e
  split at e
  · cases e
    exact iop_add pins s σ H x y v u Q I rx ry ⟨_, _, int_of rl va, int_of rl vb, r2_end rl k rfl (.int _)⟩
  · cases e
/-! a, b = x, y -/
def sPar (i j : Nat) (f : FA) : FS := fun S => do
  let (ts, S1) ← f S
  match ts with
  | [.val r, .val q] => pure (.nx, (S1.set i (some r)).set j (some q))
  | _ => stk
theorem ds_par {i j : Nat} {x y : Str} {a b : Expr} {f : FA} {px py pt : Pos} {kt k2 pt2} (hN : X.N.Nodup) (ha : PA X [a, b] (tA c f)) (h : PS X (.Assign [.Tuple [.Name x px, .Name y py] kt pt] (.Tuple [a, b] k2 pt2) pos) (tPar i j (tA c f))) (hij : i ≠ j := by decide) (hP : P.all (fun z => z != i) = true := by rfl) (hP2 : P.all (fun z => z != j) = true := by rfl) :
    PS X (.Assign [.Tuple [.Name x px, .Name y py] kt pt] (.Tuple [a, b] k2 pt2) pos) (tS c P (sPar i j f)) := psmono h fun D σ H h => by
  obtain ⟨G, S, R, ok, fl, S', e, k⟩ := h
  obtain ⟨⟨ts, S1⟩, e1, e⟩ := bind_ok e
  dsimp only at e
  split at e
  · rename_i r q
    cases e
    refine ⟨G, S, R, ok, _, _, e1, fun G1 vs H1 s1 h1 ok1 => ?_⟩
    cases h1 with
    | cons h1 h2 =>
      cases h2 with
      | cons h2 h3 =>
        cases h3
        rename_i v w
        refine ⟨v, w, rfl, k G1 _ H1 s1 ((Prot.set hP).trans (Prot.set hP2)) ?_⟩
        have ok2 : SOk c G1 H1 σ S1 ((r.1, v, r.2) :: (q.1, w, q.2) :: R) := ok1
        exact (ok2.store i).store j
  · cases e
end
end O
set_option maxRecDepth 100000
set_option maxHeartbeats 2000000
namespace O
open PySem PySem.Spec PyProof.Rows L2

/-! ### the context of a generator expression's frame -/
abbrev gEnv (scope : Scope) (C : Addr) (code : Value) (env : Env) : Env := genEnv scope (cloFrom env.cells scope.names []) C code builtinsNs env
abbrev gCx (X : Cx) (A : Around) (s : Shared) (H : Hp) (genv : Env) (fp : List Addr) : Cx := { X with s_0 := s, H_0 := H, env := genv, A := A, outer := X.stack, stack := genv :: X.stack, ex := fp, fn := fun _ => false, pn := [], xe := fun _ _ => False }
section
variable {X : Cx} {pins : List (Addr × Obj)} {σ : L2.St} {H : Hp} {s : Shared}
theorem gen_inv {A : Around} {scope : Scope} {own : List (Str × Nat)} {fp : List Addr} {code : Value} {h' : Heap} {gs : GenState} {tk : Nat} {a : Addr} {go : Obj} {m : Str → Option Value} (I : Inv X pins σ H s) (ok : BlkOk X.N X.env.scope scope own) (hN : X.N.Nodup) (hcell : ∀ y ∈ scope.names, y.2 ≠ .cell)
    (hfp : ∀ b ∈ fp, FpOk X pins H b ∧ b < s.heap.objs.size) (hA : A.handled = none) (hF : A.frames = some (gEnv scope s.heap.objs.size code X.env :: X.stack)) (hn : h'.Ns s.heap.objs.size m) (kp : ∀ b o, s.heap.get? b = some o → h'.get? b = some o) (ha : h'.get? a = some go) (hac : s.heap.objs.size < a) (hgo : ∀ v, go.data ≠ .cell v) (hg : gs.bare = true) :
    Inv (gCx X A s H (gEnv scope s.heap.objs.size code X.env) fp) [(a, go)] (wipe σ (own.map (·.2))) H { s with heap := h', gens := s.gens.push gs, toks := tk } := by
  have hfree : ∀ y ∈ scope.names, y.2 = .free → ∃ c, X.env.cells.lookup y.1 = some c := fun y hy e => by
    rcases ok.free y hy e with k | k
    · exact I.ok.has _ (.inl k)
    · exact I.ok.has _ (.inr k)
  have cm : ∀ {y c}, (y, c) ∈ cloFrom X.env.cells scope.names [] → X.env.cells.lookup y = some c ∧ c < s.heap.objs.size := fun {y c} hm => by
    rcases cloFrom_mem hm with hm | ⟨h1, rfl⟩
    · cases hm
    · obtain ⟨c, hc⟩ := hfree _ h1 rfl
      rw [hc]
      obtain ⟨w, z⟩ := I.cell _ _ hc
      exact ⟨rfl, z.lt⟩
  have cl : ∀ {y c}, (gEnv scope s.heap.objs.size code X.env).cells.lookup y = some c → X.env.cells.lookup y = some c ∧ c < s.heap.objs.size := fun {y c} e => cm (PySem.mem_of_lookup e)
  have look : ∀ {y}, scope.names.lookup y = some .free → ∃ c, (gEnv scope s.heap.objs.size code X.env).cells.lookup y = some c ∧ X.env.cells.lookup y = some c := fun {y} hl => by
    have hy : (y, NameKind.free) ∈ scope.names := PySem.mem_of_lookup hl
    obtain ⟨c', e'⟩ := mem_lookup (cloFrom_has (cells := X.env.cells) (acc := []) hy)
    exact ⟨c', e', (cl e').1⟩
  have okB : (gCx X A s H (gEnv scope s.heap.objs.size code X.env) fp).Ok := by
    refine ⟨I.ok.mod, ok.kind, I.ok.glob, rfl, Nat.le_refl _, fun y z c e1 e2 => I.ok.inj y z c (cl e1).1 (cl e2).1, fun y hy => ?_, fun y c z e => ?_, fun _ => hA, hF, .inr ⟨rfl, rfl⟩, fun b hb => ⟨?_, fun y c e z => ?_⟩, I.bs, Nat.le_trans I.ok.bsz I.sz, fun b o e hb => ?_, fun b hb z => ?_, I.stack, I.stkFree⟩
    · rcases hy with hy | hy
      · have hy : scope.names.lookup y = some .cell := hy
        exact absurd rfl (hcell _ (PySem.mem_of_lookup hy))
      · obtain ⟨c, h1, _⟩ := look hy
        exact ⟨c, h1⟩
    · cases z
    · exact Nat.ne_of_lt (hfp b hb).2
    · exact (hfp b hb).1.2.2.2.2.1 y c (cl e).1 z
    · rcases (hfp b hb).1.2.2.2.1 with z | z
      · exact I.ok.noex b o e z
      · exact absurd (Nat.lt_of_lt_of_le (Heap.lt_size e) (Nat.le_trans I.ok.bsz z)) (Nat.lt_irrefl _)
    · rcases List.mem_cons.mp (I.stkSub b z) with z | z
      · exact (hfp b hb).1.2.1 z
      · exact (hfp b hb).1.2.2.1 z
  refine ⟨okB, rfl, I.bare.push hg, Un.kept kp, ⟨m, hn, fun i y av e1 e2 e3 => ?_⟩, fun y c e => ?_, ?_, fun y c e => ?_, fun p hp => ?_, I.hok.kept kp, by rw [wipe_length]; exact I.len⟩
  · obtain ⟨e2, hne⟩ := wipe_some e2
    have no : ∀ k, scope.names.lookup y = some k → ¬ (k = .local ∨ k = .cell) := fun k e hh => by
      rcases ok.own _ (PySem.mem_of_lookup e) hh with e' | e'
      · obtain ⟨p, hp, hpy⟩ := List.mem_map.mp e'
        have e3 := ok.ix p hp
        have : p.1 = y := hpy
        rw [this] at e3
        exact hne (List.mem_map.mpr ⟨p, hp, nodup_ix hN e3 e1⟩)
      · exact e' (List.mem_of_getElem? e1)
    have e3 : Vis scope y := e3
    have hfr : scope.names.lookup y = some .free := by
      rcases e3 with e3 | e3 | e3
      · exact absurd (.inl rfl) (no _ e3)
      · exact absurd (.inr rfl) (no _ e3)
      · exact e3
    obtain ⟨m', hn', hl⟩ := I.loc
    have hvis : Vis X.env.scope y := (ok.free _ (PySem.mem_of_lookup hfr) rfl).elim (fun k => .inr (.inl k)) (fun k => .inr (.inr k))
    obtain ⟨w, r, q⟩ := hl i y av e1 e2 hvis
    refine ⟨w, r, .inr ⟨.inr hfr, ?_⟩⟩
    obtain ⟨c, h1, h2⟩ := look hfr
    rcases q with ⟨k, _⟩ | ⟨_, c', e', z⟩
    · have k : X.env.scope.names.lookup y = some .local := k
      rcases ok.free _ (PySem.mem_of_lookup hfr) rfl with k' | k' <;> rw [show X.env.scope.names.lookup y = _ from k'] at k <;> cases k
    · rw [h2] at e'; cases e'
      exact ⟨c, h1, z.keeps kp⟩
  · obtain ⟨w, z⟩ := I.cell y c (cl e).1
    exact ⟨w, z.keeps kp⟩
  · exact I.hok.fresh (Nat.le_refl _)
  · exact I.freeC y c (cl e).1
  · have hp : p = (a, go) := by simpa using hp
    subst hp
    exact ⟨ha, I.hok.fresh (Nat.le_of_lt hac), Nat.ne_of_gt hac, fun z => Nat.lt_irrefl _ (Nat.lt_trans hac (Heap.lt_size (show s.heap.get? a = _ from (by
      exact (I.stack.mem z).2.choose_spec.1)))), hgo⟩
/-- the generator's number stands for its frame -/
theorem over_frames {A : Around} {c : Code} {l : List Env} {e : Env} (h : A.frames = some l) (hc : c.envs = [e]) : (A.over c []).frames = some (e :: l) := by
  show pushEnvs c.envs (pushEnvs (envsOf ([] : List (Code × Pos))) A.frames) = _
  rw [h, hc]
  rfl
theorem over_handled0 {A : Around} {c : Code} : (A.over c []).handled = A.handled := rfl

/-- what the consumer may have done between -/
structure Evo (dom : List Addr) (ps' : List (Addr × Obj)) (s s'' : Shared) : Prop where
  os : s''.os = s.os
  bare : AllBare s''.gens
  gsz : s.gens.size ≤ s''.gens.size
  keep : ∀ b o, b ∉ dom → s.heap.get? b = some o → s''.heap.get? b = some o
  at_ : ∀ p ∈ ps', s''.heap.get? p.1 = some p.2
theorem Inv.evo {dom : List Addr} {p0 ps ps' : List (Addr × Obj)} {s'' : Shared} (I : Inv X (p0 ++ ps) σ H s) (hd : ps.map (·.1) = dom) (hd' : ps'.map (·.1) = dom) (hc : ∀ p ∈ ps', ∀ v, p.2.data ≠ .cell v) (e : Evo dom ps' s s'')
    (hap : ∀ b ∈ dom, X.s_0.heap.objs.size ≤ b ∧ ∀ x c, X.env.cells.lookup x = some c → c ≠ b) (hpn : X.pn = []) (h0 : ∀ p ∈ p0, p.1 ∉ dom) : Inv X (p0 ++ ps') σ H s'' := by
  obtain ⟨hh, g, d, t, o⟩ := s''
  have ho : o = s.os := e.os
  subst ho
  have pin : ∀ b ∈ dom, H b = none ∧ b ≠ X.env.locals ∧ b ∉ X.fs := fun b hb => by
    rw [← hd] at hb
    obtain ⟨p, hp, rfl⟩ := List.mem_map.mp hb
    obtain ⟨_, h2, h3, h4, _⟩ := I.pin p (List.mem_append_right _ (List.mem_append_right _ hp))
    exact ⟨h2, h3, h4⟩
  have nt : ∀ b u, H b = some u → b ∉ dom := fun b u q hb => by rw [(pin b hb).1] at q; cases q
  have I0 : Inv X p0 σ H s := I.pins_of fun p hp => I.pin p (List.mem_append_right _ (List.mem_append_left _ hp))
  have J : Inv X p0 σ H { s with heap := hh, gens := g, drawn := d, toks := t } := by
    refine I0.step (g' := g) (t' := t) (d' := d) (ch := dom) (fun b hb => ?_)
      (fun b ob _ _ hc q _ => e.keep b ob hc q) (fun b ob _ _ hc q _ => ⟨ob.slots, e.keep b ob hc q⟩) (fun _ _ _ _ n => n) (fun b ob hc q => ⟨ob, e.keep b ob hc q⟩)
      (fun _ _ q => q) (fun _ _ _ q => q) (fun b ps q => ⟨#[], by rw [q]; simp⟩) (fun m hm => ?_) (fun b u q => ?_) e.bare
    · obtain ⟨h1, h2⟩ := hap b hb
      refine ⟨.inr h1, (pin b hb).2.1, h2, fun p hp z => ?_⟩
      rw [hpn] at hp
      exact h0 p hp (by rw [z]; exact hb)
    · obtain ⟨ob, es, ep, ho, r⟩ := hm
      exact ⟨ob, es, ep, e.keep _ ob (fun z => (pin _ z).2.1 rfl) ho, r⟩
    · refine (I0.hok b u q).stay (fun c v hc y => e.keep c v ?_ y) (fun _ y => y) fun _ _ y => y
      rcases hc with y | y
      · rw [y]; exact nt b u q
      · exact nt c _ y
  refine J.pins_of fun p hp => ?_
  rcases List.mem_append.mp hp with hp | hp
  · exact J.pin p (List.mem_append_right _ hp)
  · have hb : p.1 ∈ dom := by rw [← hd']; exact List.mem_map.mpr ⟨p, hp, rfl⟩
    exact ⟨e.at_ p hp, (pin _ hb).1, (pin _ hb).2.1, (pin _ hb).2.2, hc p hp⟩
end
/-- a consumer's accumulator: the objects that hold it -/
structure AccK (α : Type) where
  dom : List Addr
  Pn : α → List (Addr × Obj) → Prop
  fst : ∀ a ps, Pn a ps → ps.map (·.1) = dom
  cell : ∀ a ps, Pn a ps → ∀ p ∈ ps, ∀ v, p.2.data ≠ .cell v
/-- the words of the loop of a generator expression; one turn after another -/
structure GWalk {α : Type} (J : It) (g : TG) (tt : TT) (te : TE) (vs : List Nat) (σw : L2.St) (Yw : α → V → Hp → (α → Hp → Prop) → Prop) (EndW : α → Hp → Prop) (W : Nat → Nat → α → Hp → Prop) : Prop where
  turn : ∀ i m acc H, W i m acc H → (J.stop i H ∧ EndW acc H) ∨ (J.go i H ∧ ∃ Nx : α → Hp → Prop, (∀ acc' H', Nx acc' H' → ∃ m', m' < m ∧ W (i + 1) m' acc' H') ∧
    ∀ x H', J.yld i H x H' → g x σw H' fun σ2 H2 => wipe σ2 vs = σw ∧ tt σ2 H2 fun b H3 => if b = true then te σ2 H3 fun y H4 => Yw acc y H4 Nx else Nx acc H3)
section
variable {α : Type} {X : Cx} {A2 : Around} {s4 : Shared} {H4 : Hp} {fp : List Addr} {it a : Addr} {go : Obj} {tn : Nat → Heap → Prop} {J : It} {tg elt iter : Expr} {ifs : List Expr} {scope : Scope} {pos : Pos} {C : Addr} {code : Value} {g : TG} {tt : TT} {te : TE} {vs : List Nat} {σw : L2.St}
  {Yw : α → V → Hp → (α → Hp → Prop) → Prop} {EndW : α → Hp → Prop} {W : Nat → Nat → α → Hp → Prop} {R : GenEnd} {Y : Protocol} {gn : Nat}
abbrev gCode (elt tg iter : Expr) (ifs : List Expr) (scope : Scope) (pos : Pos) (it : Addr) (genv : Env) : Code := .compLoop (.GeneratorExp elt [⟨tg, iter, ifs, 0⟩] scope pos) 0 (.ref it) .none genv
theorem gen_loop (Xg : Cx) (hXg : Xg = gCx X (A2.over (gCode elt tg iter ifs scope pos it (gEnv scope C code X.env)) []) s4 H4 (gEnv scope C code X.env) fp) (hcalm : X.calm = true)
    (T : Turn X.prog X.w X.K tg J fp it tn) (pg : PG Xg tg g) (pt : PTs Xg ifs tt) (pe : PE Xg elt te) (hw : wipe σw vs = σw) (ac : AccK α) (haf : a ∉ fp) (had : a ∉ ac.dom) (hfd : ∀ b ∈ fp, b ∉ ac.dom)
    (hap : ∀ b ∈ ac.dom, s4.heap.objs.size ≤ b ∧ ∀ x c, (gEnv scope C code X.env).cells.lookup x = some c → c ≠ b) (hco : scope.isCoroutine = false)
    (GW : GWalk J g tt te vs σw Yw EndW W)
    (hR : ∀ n s₀ acc H s σ' ps, ac.Pn acc ps → Inv Xg ((a, go) :: ps) σ' H s → (∀ p ∈ ps, s₀.heap.get? p.1 = some p.2) → gn < s.gens.size → EndW acc H → R n s₀ (.ok .next) s)
    (hY : ∀ n s₀ acc y v H s σ' ps Nx kap, ac.Pn acc ps → Inv Xg ((a, go) :: ps) σ' H s → (∀ p ∈ ps, s₀.heap.get? p.1 = some p.2) → gn < s.gens.size → RelV y v → Yw acc y H Nx → (∀ acc' ps' s'', Nx acc' H → ac.Pn acc' ps' → Evo ac.dom ps' s s'' → kap (.send .none) s'') → Y n s₀ v s kap) :
    ∀ (m n i : Nat) (acc : α) (H : Hp) (s₀ s : Shared) (ps : List (Addr × Obj)), m < n → W i m acc H → ac.Pn acc ps → Inv Xg ((a, go) :: ps) σw H s → (∀ p ∈ ps, s₀.heap.get? p.1 = some p.2) → tn i s.heap → (∀ b ∈ fp, H b = none) → gn < s.gens.size →
      Seg (model X.prog X.w) A2 R Y n s₀ (gCode elt tg iter ifs scope pos it (gEnv scope C code X.env)) ((model X.prog X.w).den (gCode elt tg iter ifs scope pos it (gEnv scope C code X.env))) [] s := by
  have hstat : ∀ {pins : List (Addr × Obj)} {σ' : L2.St} {H' : Hp} {s' : Shared}, Inv Xg pins σ' H' s' → (∀ p ∈ pins, p.1 ∉ fp) → (∀ b ∈ fp, H' b = none) → ∀ b ∈ fp, FpOk Xg pins H' b := by
    intro pins σ' H' s' I' hp hn b hb
    subst hXg
    exact ⟨hn b hb, (I'.ok.exf b hb).1, I'.ok.exfs b hb, .inl hb, fun x c e => (I'.ok.exf b hb).2 x c e, fun p hp' e => hp p (by simpa using hp') (by rw [e]; exact hb)⟩
  have hpins : ∀ acc ps, ac.Pn acc ps → ∀ p ∈ (a, go) :: ps, p.1 ∉ fp := fun acc ps hP p hp hb => by
    rcases List.mem_cons.mp hp with rfl | hp
    · exact haf hb
    · exact hfd _ hb (by rw [← ac.fst acc ps hP]; exact List.mem_map.mpr ⟨p, hp, rfl⟩)
  have hXA : Xg.A = A2.over (gCode elt tg iter ifs scope pos it (gEnv scope C code X.env)) [] := by rw [hXg]
  have hXe : Xg.env = gEnv scope C code X.env := by rw [hXg]
  have hXm : model Xg.prog Xg.w = model X.prog X.w := by rw [hXg]
  have hXx : Xg.xe = fun _ _ => False := by rw [hXg]
  intro m
  induction m using Nat.strongRecOn with
  | ind m ih =>
    intro n i acc H s₀ s ps hmn w hP I hz st nf hgn
    show Seg _ A2 _ _ _ s₀ _ ((compTurn (.GeneratorExp elt [⟨tg, iter, ifs, 0⟩] scope pos) 0 (.ref it) .none (gEnv scope C code X.env)).onRaise (leaving (gEnv scope C code X.env))) [] s
    rw [compTurn_gen, Sem.onRaise_eq_wrap]
    refine seg_bind_wrap (wpAny_standAt ?_)
    rcases GW.turn i m acc H w with ⟨stop, he⟩ | ⟨go', Nx, hNx, step⟩
    · have td := T.done Xg (by rw [hXg]) (by rw [hXg]) (by rw [hXg]) (by rw [hXg]; exact hcalm) i _ s σw H (fun _ _ => False) I (hstat I (hpins acc ps hP) nf) st stop
      rw [hXA] at td
      refine seg_bind_wrap (GenW.wpAny_gsz (n := gn + 1) hgn (thnF td fun r s1 ⟨hr, I1⟩ hg1 => ?_))
      subst hr
      exact seg_end (.ok .next) (hR n s₀ acc H s1 σw ps hP I1 hz hg1 he)
    · have ti := T.item Xg (by rw [hXg]) (by rw [hXg]) (by rw [hXg]) (by rw [hXg]; exact hcalm) i _ s σw H (fun _ _ => False) I (hstat I (hpins acc ps hP) nf) st go'
      rw [hXA] at ti
      refine seg_bind_wrap (GenW.wpAny_gsz (n := gn + 1) hgn (thnF ti fun r s1 ⟨u, hr, h1⟩ hg1 => ?_))
      subst hr
      refine seg_bind_wrap (GenW.wpAny_gsz (n := gn + 1) hg1 (thnF h1 fun _ s2 ⟨x, H2, I2, r2, y2, st2, n2⟩ hg2 => ?_))
      have I2' := I2.pinned (hstat I2 (hpins acc ps hP) n2) (T.obj _ _ st2)
      have q1 := pg.run _ s2 _ H2 x u _ I2' r2 (step x H2 y2)
      rw [hXm, hXA, hXe, hXx] at q1
      refine seg_bind_wrap (GenW.wpAny_gsz (n := gn + 1) hg2 (thnF q1 fun _ s3 ⟨σ3, H3, I3, hw3, q3⟩ hg3 => ?_))
      have q2 := pt.run _ s3 σ3 H3 _ I3 q3
      rw [hXm, hXA, hXe, hXx] at q2
      refine seg_bind_wrap (GenW.wpAny_gsz (n := gn + 1) hg3 (thnF q2 fun b s5 ⟨H5, I5, q5⟩ hg5 => ?_))
      have fin : ∀ {s' : Shared} {H' : Hp} {ps' : List (Addr × Obj)} {acc' : α}, Inv Xg (((a, go) :: ps') ++ pinsAt fp s2.heap) σ3 H' s' → Inv Xg ((a, go) :: ps') σw H' s' ∧ tn (i + 1) s'.heap ∧ ∀ b ∈ fp, H' b = none := fun {s' H' ps' acc'} I' => by
        have hl : σw.length = σ3.length := by rw [← hw3, wipe_length]
        have pin' : ∀ b ∈ fp, ∀ o, s2.heap.get? b = some o → s'.heap.get? b = some o ∧ H' b = none := fun b hb o e =>
          let z := I'.pin (b, o) (List.mem_append_right _ (List.mem_append_right _ (mem_pinsAt hb e)))
          ⟨z.1, z.2.1⟩
        refine ⟨(I'.unpinned).weak hl (fun j v e => ?_), T.keep _ _ _ st2 fun b hb o e => (pin' b hb o e).1, fun b hb => ?_⟩
        · rw [← hw3] at e
          exact (wipe_some e).1
        · obtain ⟨o, e, _⟩ := T.obj _ _ st2 b hb
          exact (pin' b hb o e).2
      cases b with
      | false =>
        simp only [Bool.false_eq_true, if_false] at q5 ⊢
        obtain ⟨m', hm, w'⟩ := hNx acc H5 q5
        obtain ⟨I6, st6, n6⟩ := fin (acc' := acc) I5
        exact seg_again rfl (ih m' hm n (i + 1) acc H5 s₀ s5 ps (by omega) w' hP I6 hz st6 n6 hg5)
      | true =>
        simp only [if_true] at q5 ⊢
        have hy : ∀ v, yieldOut (gEnv scope C code X.env) v = yieldValue v := fun v => by
          have : (gEnv scope C code X.env).scope.isCoroutine = false := hco
          simp only [yieldOut, this, Bool.false_eq_true, if_false]
        simp only [hy]
        rw [Sem.bind_eq_wrap', Sem.bind_eq_wrap', Sem.wrap_wrap, Sem.wrap_wrap]
        have q3' := pe.run _ s5 σ3 H5 _ I5 q5
        rw [hXm, hXA, hXe, hXx] at q3'
        refine seg_wrap (GenW.wpAny_gsz (n := gn + 1) hg5 (thnF q3' fun v s6 ⟨y, H6, I6, r6, yw⟩ hg6 => ?_))
        cases n with
        | zero => exact absurd hmn (Nat.not_lt_zero m)
        | succ n =>
          refine seg_at (seg_yield rfl rfl rfl (hY n s₀ acc y v H6 s6 σ3 ps Nx _ hP (I6.unpinned) hz hg6 r6 yw fun acc' ps' s'' nx hP' ev => ?_))
          obtain ⟨m', hm, w'⟩ := hNx acc' H6 nx
          obtain ⟨I7, st7, n7⟩ := fin (acc' := acc) I6
          have I8 : Inv Xg ([(a, go)] ++ ps') σw H6 s'' := Inv.evo (p0 := [(a, go)]) (ps := ps) I7 (ac.fst _ _ hP) (ac.fst _ _ hP') (ac.cell _ _ hP') ev (by rw [hXg]; exact hap) (by rw [hXg]) (fun p hp => by
            have : p = (a, go) := by simpa using hp
            rw [this]; exact had)
          exact seg_again rfl (ih m' hm n (i + 1) acc' H6 s'' s'' ps' (by omega) w' hP' I8 (fun p hp => ev.at_ p hp) (T.keep _ _ _ st7 fun b hb o e => ev.keep b o (hfd b hb) e) n7 (Nat.lt_of_lt_of_le hg6 ev.gsz))
end
end O
set_option maxRecDepth 100000
set_option maxHeartbeats 2000000
namespace O
open PySem PySem.Spec PyProof.Rows L2

section
variable {X : Cx} {pins : List (Addr × Obj)} {σ : L2.St} {H : Hp} {s : Shared}
theorem gen_start {A2 : Around} {R : GenEnd} {Y : Protocol} {n : Nat} {s₀ : Shared} {elt tg iter : Expr} {ifs : List Expr} {scope : Scope} {pos : Pos} {it : Addr} {genv : Env} {P : Program} {w : World} {K : PySem.W.Frag} {J : It} {fp : List Addr} {tn : Nat → Heap → Prop}
    (T : Turn P w K tg J fp it tn) (st : tn 0 s.heap)
    (h : Seg (model P w) A2 R Y n s₀ (gCode elt tg iter ifs scope pos it genv) ((model P w).den (gCode elt tg iter ifs scope pos it genv)) [] s) :
    Seg (model P w) A2 R Y n s₀ (.compStart (.GeneratorExp elt [⟨tg, iter, ifs, 0⟩] scope pos) 0 (.ref it) .none genv) ((model P w).den (.compStart (.GeneratorExp elt [⟨tg, iter, ifs, 0⟩] scope pos) 0 (.ref it) .none genv)) [] s := by
  show Seg _ A2 _ _ _ s₀ _ ((compStart (.GeneratorExp elt [⟨tg, iter, ifs, 0⟩] scope pos) 0 (.ref it) .none genv).onRaise (leaving genv)) [] s
  unfold compStart
  rw [Sem.onRaise_eq_wrap]
  show Seg _ A2 _ _ _ s₀ _ ((ask >>= _).wrap _ _ _ _) [] s
  refine seg_bind_wrap (wpAny_askSetting ?_)
  split
  · exact seg_again rfl h
  · first
      | exact seg_bind_wrap (wpAny_rule (seg_bind_wrap (wpAny_standAt (seg_bind_wrap (T.self _ 0 s _ _ st (seg_again rfl h))))))
      | (refine seg_bind_wrap (wpAny_rule ?_); show Seg _ A2 _ _ _ s₀ _ ((standAt iter.pos >>= _).wrap _ _ _ _) [] s; exact seg_bind_wrap (wpAny_standAt (seg_bind_wrap (T.self _ 0 s _ _ st (seg_again rfl h)))))
/-- a generator expression is made: nothing has run yet -/
def Made (X : Cx) (pins : List (Addr × Obj)) (σ : L2.St) (tg elt iter : Expr) (ifs : List Expr) (scope : Scope) (pos : Pos) (Rr : It → Hp → Prop) (v : Value) (s' : Shared) : Prop :=
  ∃ (s4 : Shared) (H2 : Hp) (it : Addr) (fp : List Addr) (tn : Nat → Heap → Prop) (J : It) (code : Value) (go : Obj) (h' : Heap) (tk : Nat) (m : Str → Option Value), v = .ref (s4.heap.objs.size + 1) ∧ Inv X pins σ H2 s4 ∧ Turn X.prog X.w X.K tg J fp it tn ∧ tn 0 s4.heap ∧
    (∀ b ∈ fp, FpOk X pins H2 b ∧ b < s4.heap.objs.size) ∧ Rr J H2 ∧
    s' = { s4 with heap := h', gens := s4.gens.push (.fresh (.compStart (.GeneratorExp elt [⟨tg, iter, ifs, 0⟩] scope pos) 0 (.ref it) .none (gEnv scope s4.heap.objs.size code X.env))), toks := tk } ∧
    h'.Ns s4.heap.objs.size m ∧ (∀ b o, s4.heap.get? b = some o → h'.get? b = some o) ∧ h'.get? (s4.heap.objs.size + 1) = some go ∧ (∀ hh : Heap, hh.get? (s4.heap.objs.size + 1) = some go → hh.IsGen (s4.heap.objs.size + 1) s4.gens.size) ∧ (∀ v, go.data ≠ .cell v) ∧ h'.objs.size = s4.heap.objs.size + 2
theorem gen_make {c P : Addr} {elt tg iter : Expr} {ifs : List Expr} {scope : Scope} {own : List (Str × Nat)} {gpos : Pos} {wi : TI} {k : Nat} {Rr : It → Hp → Prop}
    (hr : Room k X.A) (TB : GxR.TabB X.base X.mg c P) (hcode : X.env.code = .ref c) (ok : BlkOk X.N X.env.scope scope own) (hco : scope.isCoroutine = false) (hcell : ∀ y ∈ scope.names, y.2 ≠ .cell) (hdot : scope.names.lookup (".0" : Str) = some NameKind.local) (hi : PI X tg iter wi)
    (hs : ∀ v, genFold iter X.env v = pure v) (I : Inv X pins σ H s) (h : wi σ H fun J H1 => GxR.TabG H1 P ∧ ∀ H2, GxR.Tabbed P H1 H2 → Rr J H2) :
    wpAny (model X.prog X.w) X.A (eval (.GeneratorExp elt [⟨tg, iter, ifs, 0⟩] scope gpos) X.env) (Made X pins σ tg elt iter ifs scope gpos Rr) X.xe s := by
  have hfree : ∀ y ∈ scope.names, y.2 = .free → ∃ c, X.env.cells.lookup y.1 = some c := fun y hy e => by
    rcases ok.free y hy e with k | k
    · exact I.ok.has _ (.inl k)
    · exact I.ok.has _ (.inr k)
  refine wpAny_GeneratorExp_make hco (closure_ok hfree) hcell hdot ok.kind (by have := hr.dp; omega) ?_ hs
  refine thn (hi.run pins s σ H _ I h) fun xv s1 h1 => thn h1 fun itv s2 h2 => ?_
  obtain ⟨it, fp, tn, J, H1, e, I2, T, st2, f2, ⟨ps, hP, ht⟩, q⟩ := h2
  subst e
  have hPs : s2.heap.get? P = some { cls := .none, data := .fields ps } := I2.hok P _ hP
  have cd : PySem.W.CodeHd s2.heap c P := TB.code.keeps fun b u e => I2.bk b u e
  refine ⟨I2.nolimit, ?_⟩
  have szf : ∀ b ∈ fp, b < s2.heap.objs.size := fun b hb => by
    obtain ⟨o, e, _⟩ := T.obj _ _ st2 b hb
    exact Heap.lt_size e
  have cont : ∀ (code : Value) (h3 : Heap) (tk : Nat) (more : Array Value), (∀ b o, b ≠ P → s2.heap.get? b = some o → h3.get? b = some o) → s2.heap.objs.size ≤ h3.objs.size → h3.get? P = some { cls := .none, data := .fields (ps ++ more) } → TriplesOk (ps ++ more).toList →
      wpAny (model X.prog X.w) X.A (builtinsFor X.env.globals X.env.builtins) (fun bi s₄ =>
        ∀ h', h'.Ns s₄.heap.objs.size (fun y => if y = ".0" then some (.ref it) else none) → Heap.SameBut s₄.heap.objs.size (s₄.heap.push { cls := .type "frame", data := .dict #[] }) h' →
          Made X pins σ tg elt iter ifs scope gpos Rr (.ref h'.objs.size) { s₄ with
            gens := s₄.gens.push (.fresh (.compStart (.GeneratorExp elt [⟨tg, iter, ifs, 0⟩] scope gpos) 0 (.ref it) .none (genEnv scope (cloFrom X.env.cells scope.names []) s₄.heap.objs.size code bi X.env))),
            toks := s₄.toks + 1 + 1 + 1,
            heap := h'.push { cls := .type "generator", data := .fields #[.int s₄.gens.size 0, .str "<genexpr>" (s₄.toks + 1), .str (X.env.qual ++ "<genexpr>") (s₄.toks + 1 + 1)] } }) X.xe { s2 with heap := h3, toks := tk } := by
    intro code h3 tk more hx hsz hP3 ht3
    have I4 : Inv X pins σ (upd H1 P (.tbl (ps ++ more))) { s2 with heap := h3, gens := s2.gens, drawn := s2.drawn, toks := tk } := GxR.inv_tab I2 hP hx hP3 I2.bare
    obtain ⟨bm, ob, e1, e2, e3, e4, e5, e6, e7, e8⟩ := TB.bm
    refine wpAny_builtinsFor (m := X.mg) (by rw [I4.ok.glob]; exact I4.mod.glob.keeps I4.bk) e1 e2 (I4.bk _ _ e5) e6 e7 e8 ?_
    intro h' hn hsb
    have hsz' : h'.objs.size = h3.objs.size + 1 := by rw [hsb.1, Heap.size_push]
    have kp : ∀ b o, h3.get? b = some o → h'.get? b = some o := fun b o e => hsb.extBut b o (Nat.ne_of_lt (Heap.lt_size e)) (Heap.get?_push_of_some _ e)
    have nfP : ∀ b ∈ fp, b ≠ P := fun b hb e => by
      have := (f2 b hb).1
      rw [e, hP] at this
      cases this
    refine ⟨{ s2 with heap := h3, toks := tk }, upd H1 P (.tbl (ps ++ more)), it, fp, tn, J, code, { cls := .type "generator", data := .fields #[.int s2.gens.size 0, .str "<genexpr>" (tk + 1), .str (X.env.qual ++ "<genexpr>") (tk + 1 + 1)] }, _, tk + 1 + 1 + 1, _, by rw [hsz'], I4, T, T.keep _ _ _ st2 fun b hb o e => hx b o (nfP b hb) e, fun b hb => ⟨⟨?_, (f2 b hb).2⟩, Nat.lt_of_lt_of_le (szf b hb) hsz⟩, q _ ⟨⟨_, upd_same, ht3⟩, fun b hb => upd_ne hb⟩, rfl, hn.push _, fun b o e => Heap.get?_push_of_some _ (kp b o e), ?_, fun hh e => ⟨_, _, _, e, rfl, rfl, rfl⟩, fun v z => (by cases z), by rw [Heap.size_push, hsz']⟩
    · rw [upd_ne (nfP b hb)]
      exact (f2 b hb).1
    · have := Heap.get?_push_size h' (o := { cls := .type "generator", data := .fields #[.int s2.gens.size 0, .str "<genexpr>" (tk + 1), .str (X.env.qual ++ "<genexpr>") (tk + 1 + 1)] }) rfl
      rw [hsz'] at this
      exact this
  cases hf : codeAmong gpos ps.toList with
  | none =>
    refine wpAny_genexprCodeX hcode (cd.code hPs ht) (cd.tab hPs) hf fun c' h' tk hx hge hlt hco' _ htab' _ => ?_
    obtain ⟨o1, vs, f1, tf, fl, tg', inF, tx, tt, op, _, _, _, _, _, _, _, _, _, htr, _⟩ := hco'
    exact cont _ h' tk _ hx (Nat.le_trans hge (Nat.le_of_lt hlt)) htab'.2 htr
  | some cv =>
    refine wpAny_genexprCode_hit hcode (cd.code hPs ht) hf ?_
    exact cont cv s2.heap s2.toks #[] (fun b o _ e => e) (Nat.le_refl _) (by simpa using hPs) (by simpa using ht)
theorem Inv.gensTo {g' : Array GenState} {h' : Heap} (I : Inv X pins σ H s) (hg : AllBare g') (k : ∀ b u, s.heap.get? b = some u → h'.get? b = some u) : Inv X pins σ H { s with heap := h', gens := g' } :=
  (⟨I.ok, I.os, hg, I.base, I.loc, I.cell, I.free, I.freeC, I.pin, I.hok, I.len⟩ : Inv X pins σ H { s with gens := g' }).kept (t' := s.toks) k
theorem AllBare.setGen {s : Shared} {g : Nat} {x : GenState} (h : AllBare s.gens) (hx : x.bare = true) : AllBare (s.setGen g x).gens := fun y hy => by
  have hy : y ∈ s.gens.setIfInBounds g x := hy
  rcases Array.mem_or_eq_of_mem_setIfInBounds hy with z | z
  · exact h y z
  · rw [z]; exact hx
/-- the room of a generator expression's frame -/
theorem room_gen {k : Nat} {A : Around} {elt tg iter : Expr} {ifs : List Expr} {scope : Scope} {pos : Pos} {it : Addr} {genv : Env} (r : Room (k + 1) A) : Room k ((A.in1.in1).over (gCode elt tg iter ifs scope pos it genv) []) :=
  ⟨r.hd, by have := r.dp; show A.depth + 0 + 1 + 3 * k + 5 < _; omega, by have := r.un; show A.units + 1 + 1 + 0 + 3 + 16 * k + 200 < _; omega⟩

/-! ### the loops of all and any -/
section
variable {prog : Program} {w : World} {A : Around} {a : Addr} {g : Nat} {Fin : Bool → Shared → Prop}
/-- what a made item asks: it stops at b = st -/
def YBool (a : Addr) (g : Nat) (st : Bool) (Fin : Bool → Shared → Prop) : Protocol := fun n s₀ v s kap => ∃ b, v = .bool b ∧ s.heap.IsGen a g ∧ s.heap.NoLimit ∧ g < s.gens.size ∧ AllBare s.gens ∧
  (b = st → ∀ gs' : GenState, gs'.bare = true → Fin st (s.setGen g gs')) ∧ (b ≠ st → ∀ s'', Evo [] [] s s'' → kap (.send .none) s'')
def PEnd (g : Nat) (Fin : Shared → Prop) : Nat → Shared → Shared → Prop := fun n s₀ s => ∀ h', (∀ b o, s.heap.get? b = some o → h'.get? b = some o) → Fin { s.setGen g .finished with heap := h' }
theorem setGen_get {s : Shared} {g : Nat} {x : GenState} (h : g < s.gens.size) : (s.setGen g x).gens[g]? = some x := by simp [Shared.setGen, h]
theorem all_loop_gen (hh : A.handled = none) (hroom : A.in1.depth < recursionLimit) : ∀ (n : Nat) (gs : GenState) (s : Shared), s.heap.IsGen a g → s.heap.NoLimit → s.gens[g]? = some gs →
    gs.Goes (model prog w) A.in1.in1 (fun n s₀ r s₁ => r = .ok .next ∧ PEnd g (Fin true) n s₀ s₁) (YBool a g false Fin) n (.send .none) (s.setGen g .running) →
    codeAny (model prog w) A (.builtin "all.loop" ⟨[.ref a], []⟩) (fun r s' => ∃ b, r = .ok (.ret (.bool b)) ∧ Fin b s') s := by
  intro n
  induction n with
  | zero =>
    intro gs s hg hl hgs hgo
    refine codeAny_builtin F.entry_all_loop ?_
    rw [Around.under_plainId F.plain_all_loop _]
    show wpAny _ A.in1 (pyNext (.ref a) >>= _) _ _ s
    refine wpAny_bind (wpAny_pyNext_genexpQ (A := A.in1) hh hl hroom hg hgs hgo (fun v s₁ gs' hb hv => ?_) (fun s₁ hp h' hk => ?_))
    · obtain ⟨b, rfl, h1, h2, h3, h4, h5, h6⟩ := hv
      refine wpAny_bind (wpAny_holding (wpAny_truthy_bool ?_))
      refine wpAny_bind (wpAny_letGo ?_)
      cases b with
      | false =>
        simp only [Bool.false_eq_true, if_false]
        exact wpAny_bind (wpAny_rule (wpAny_pure ⟨false, rfl, h5 rfl gs' hb⟩))
      | true => exact absurd (h6 (by decide) s₁ ⟨rfl, h4, Nat.le_refl _, fun _ _ _ e => e, fun _ h => by simp at h⟩) (by exact id)
    · exact wpAny_bind (wpAny_rule (wpAny_pure ⟨true, rfl, hp h' hk⟩))
  | succ n ih =>
    intro gs s hg hl hgs hgo
    refine codeAny_builtin F.entry_all_loop ?_
    rw [Around.under_plainId F.plain_all_loop _]
    show wpAny _ A.in1 (pyNext (.ref a) >>= _) _ _ s
    refine wpAny_bind (wpAny_pyNext_genexpQ (A := A.in1) hh hl hroom hg hgs hgo (fun v s₁ gs' hb hv => ?_) (fun s₁ hp h' hk => ?_))
    · obtain ⟨b, rfl, h1, h2, h3, h4, h5, h6⟩ := hv
      refine wpAny_bind (wpAny_holding (wpAny_truthy_bool ?_))
      refine wpAny_bind (wpAny_letGo ?_)
      cases b with
      | false =>
        simp only [Bool.false_eq_true, if_false]
        exact wpAny_bind (wpAny_rule (wpAny_pure ⟨false, rfl, h5 rfl gs' hb⟩))
      | true =>
        simp only [if_true]
        refine wpAny_pure ⟨plainId_quiet F.plain_all_loop _, ih gs' _ h1 h2 (setGen_get h3) (h6 (by decide) _ ⟨rfl, AllBare.setGen (AllBare.setGen h4 hb) rfl, by simp [Shared.setGen], fun _ _ _ e => e, fun _ h => by simp at h⟩)⟩
    · exact wpAny_bind (wpAny_rule (wpAny_pure ⟨true, rfl, hp h' hk⟩))
theorem any_loop_gen (hh : A.handled = none) (hroom : A.in1.depth < recursionLimit) : ∀ (n : Nat) (gs : GenState) (s : Shared), s.heap.IsGen a g → s.heap.NoLimit → s.gens[g]? = some gs →
    gs.Goes (model prog w) A.in1.in1 (fun n s₀ r s₁ => r = .ok .next ∧ PEnd g (Fin false) n s₀ s₁) (YBool a g true Fin) n (.send .none) (s.setGen g .running) →
    codeAny (model prog w) A (.builtin "any.loop" ⟨[.ref a], []⟩) (fun r s' => ∃ b, r = .ok (.ret (.bool b)) ∧ Fin b s') s := by
  intro n
  induction n with
  | zero =>
    intro gs s hg hl hgs hgo
    refine codeAny_builtin F.entry_any_loop ?_
    rw [Around.under_plainId F.plain_any_loop _]
    show wpAny _ A.in1 (pyNext (.ref a) >>= _) _ _ s
    refine wpAny_bind (wpAny_pyNext_genexpQ (A := A.in1) hh hl hroom hg hgs hgo (fun v s₁ gs' hb hv => ?_) (fun s₁ hp h' hk => ?_))
    · obtain ⟨b, rfl, h1, h2, h3, h4, h5, h6⟩ := hv
      refine wpAny_bind (wpAny_holding (wpAny_truthy_bool ?_))
      refine wpAny_bind (wpAny_letGo ?_)
      cases b with
      | true =>
        simp only [if_true]
        exact wpAny_bind (wpAny_rule (wpAny_pure ⟨true, rfl, h5 rfl gs' hb⟩))
      | false => exact absurd (h6 (by decide) s₁ ⟨rfl, h4, Nat.le_refl _, fun _ _ _ e => e, fun _ h => by simp at h⟩) (by exact id)
    · exact wpAny_bind (wpAny_rule (wpAny_pure ⟨false, rfl, hp h' hk⟩))
  | succ n ih =>
    intro gs s hg hl hgs hgo
    refine codeAny_builtin F.entry_any_loop ?_
    rw [Around.under_plainId F.plain_any_loop _]
    show wpAny _ A.in1 (pyNext (.ref a) >>= _) _ _ s
    refine wpAny_bind (wpAny_pyNext_genexpQ (A := A.in1) hh hl hroom hg hgs hgo (fun v s₁ gs' hb hv => ?_) (fun s₁ hp h' hk => ?_))
    · obtain ⟨b, rfl, h1, h2, h3, h4, h5, h6⟩ := hv
      refine wpAny_bind (wpAny_holding (wpAny_truthy_bool ?_))
      refine wpAny_bind (wpAny_letGo ?_)
      cases b with
      | true =>
        simp only [if_true]
        exact wpAny_bind (wpAny_rule (wpAny_pure ⟨true, rfl, h5 rfl gs' hb⟩))
      | false =>
        simp only [Bool.false_eq_true, if_false]
        refine wpAny_pure ⟨plainId_quiet F.plain_any_loop _, ih gs' _ h1 h2 (setGen_get h3) (h6 (by decide) _ ⟨rfl, AllBare.setGen (AllBare.setGen h4 hb) rfl, by simp [Shared.setGen], fun _ _ _ e => e, fun _ h => by simp at h⟩)⟩
    · exact wpAny_bind (wpAny_rule (wpAny_pure ⟨false, rfl, hp h' hk⟩))
end
end
end O
set_option maxRecDepth 100000
set_option maxHeartbeats 2000000
namespace O
open PySem PySem.Spec PyProof.Rows L2

def YwB (st : Bool) (Q : VK) : Unit → V → Hp → (Unit → Hp → Prop) → Prop := fun _ y H Nx => ∃ b, y = .bl b ∧ ((b = st ∧ Q (.bl st) H) ∨ (b ≠ st ∧ Nx () H))
/-- all(..) (st false), any(..) (st true) of a generator expression -/
def tBG (st : Bool) (P : Addr) (wi : TI) (g : TG) (tt : TT) (te : TE) (vs : List Nat) : TE := fun σ H Q => wi σ H fun J H1 => GxR.TabG H1 P ∧ ∀ H2, GxR.Tabbed P H1 H2 → ∃ W : Nat → Nat → Unit → Hp → Prop, (∃ m, W 0 m () H2) ∧ GWalk J g tt te vs (wipe σ vs) (YwB st Q) (fun _ H => Q (.bl (!st)) H) W
abbrev accU : AccK Unit := ⟨[], fun _ ps => ps = [], fun _ _ h => by rw [h]; rfl, fun _ _ h p hp => by rw [h] at hp; simp at hp⟩
section
variable {X : Cx} {pins : List (Addr × Obj)} {σ : L2.St} {H : Hp} {s : Shared}
theorem wipe_wipe {σ : L2.St} {vs : List Nat} : wipe (wipe σ vs) vs = wipe σ vs := by
  refine List.ext_getElem? fun i => ?_
  by_cases hi : i < σ.length
  · by_cases hv : i ∈ vs
    · rw [wipe_in hv (by rw [wipe_length]; exact hi), wipe_in hv hi]
    · rw [wipe_out hv]
  · rw [List.getElem?_eq_none (by rw [wipe_length, wipe_length]; omega), List.getElem?_eq_none (by rw [wipe_length]; omega)]
/-- the made generator goes, for a consumer of bools -/
theorem gen_goes {P : Addr} {st : Bool} {elt tg iter : Expr} {ifs : List Expr} {scope : Scope} {own : List (Str × Nat)} {gpos : Pos} {g : TG} {tt : TT} {te : TE} {k : Nat} {Q : VK} {v : Value} {s' : Shared}
    (hr : Room (k + 1) X.A) (hcalm : X.calm = true) (ok : BlkOk X.N X.env.scope scope own) (hN : X.N.Nodup) (hco : scope.isCoroutine = false) (hcell : ∀ y ∈ scope.names, y.2 ≠ .cell)
    (hgd : ∀ (s : Shared) (H : Hp) (C : Addr) (code : Value) (fp : List Addr) (it : Addr), Room k (X.A.in1.in1.over (gCode elt tg iter ifs scope gpos it (gEnv scope C code X.env)) []) → PG (gCx X (X.A.in1.in1.over (gCode elt tg iter ifs scope gpos it (gEnv scope C code X.env)) []) s H (gEnv scope C code X.env) fp) tg g)
    (htd : ∀ (s : Shared) (H : Hp) (C : Addr) (code : Value) (fp : List Addr) (it : Addr), Room k (X.A.in1.in1.over (gCode elt tg iter ifs scope gpos it (gEnv scope C code X.env)) []) → PTs (gCx X (X.A.in1.in1.over (gCode elt tg iter ifs scope gpos it (gEnv scope C code X.env)) []) s H (gEnv scope C code X.env) fp) ifs tt)
    (hed : ∀ (s : Shared) (H : Hp) (C : Addr) (code : Value) (fp : List Addr) (it : Addr), Room k (X.A.in1.in1.over (gCode elt tg iter ifs scope gpos it (gEnv scope C code X.env)) []) → PE (gCx X (X.A.in1.in1.over (gCode elt tg iter ifs scope gpos it (gEnv scope C code X.env)) []) s H (gEnv scope C code X.env) fp) elt te)
    (hm : Made X pins σ tg elt iter ifs scope gpos (fun J H2 => ∃ W : Nat → Nat → Unit → Hp → Prop, (∃ m, W 0 m () H2) ∧ GWalk J g tt te (own.map (·.2)) (wipe σ (own.map (·.2))) (YwB st Q) (fun _ H => Q (.bl (!st)) H) W) v s') :
    ∃ (a : Addr) (gn n : Nat) (gs : GenState), v = .ref a ∧ s'.heap.IsGen a gn ∧ s'.heap.NoLimit ∧ s'.gens[gn]? = some gs ∧
      gs.Goes (model X.prog X.w) X.A.in1.in1 (fun n s₀ r s₁ => r = .ok .next ∧ PEnd gn (fun s => EP X pins σ Q (.bool !st) s) n s₀ s₁) (YBool a gn st (fun b s => EP X pins σ Q (.bool b) s)) n (.send .none) (s'.setGen gn .running) := by
  obtain ⟨s4, H2, it, fp, tn, J, code, go, h', tk, m, rfl, I4, T, st4, f4, ⟨W, ⟨m0, w0⟩, GW⟩, rfl, hn, kp, hgo, hgen, hgc, hsz⟩ := hm
  have hA : (X.A.in1.in1.over (gCode elt tg iter ifs scope gpos it (gEnv scope s4.heap.objs.size code X.env)) []).handled = none := hr.hd
  have hF : (X.A.in1.in1.over (gCode elt tg iter ifs scope gpos it (gEnv scope s4.heap.objs.size code X.env)) []).frames = some (gEnv scope s4.heap.objs.size code X.env :: X.stack) := over_frames (show X.A.in1.in1.frames = some X.stack from I4.ok.frames) rfl
  have Ig := gen_inv (fp := fp) (code := code) (gs := .fresh (.compStart (.GeneratorExp elt [⟨tg, iter, ifs, 0⟩] scope gpos) 0 (.ref it) .none (gEnv scope s4.heap.objs.size code X.env))) (tk := tk) I4 ok hN hcell f4 hA hF hn kp hgo (Nat.lt_succ_self _) hgc rfl
  have hroom := room_gen (elt := elt) (tg := tg) (iter := iter) (ifs := ifs) (scope := scope) (pos := gpos) (it := it) (genv := gEnv scope s4.heap.objs.size code X.env) hr
  have back : ∀ {H3 : Hp} {s3 : Shared} {σ3 : L2.St} {ps : List (Addr × Obj)} {gs' : GenState} {h3 : Heap}, Inv (gCx X (X.A.in1.in1.over (gCode elt tg iter ifs scope gpos it (gEnv scope s4.heap.objs.size code X.env)) []) s4 H2 (gEnv scope s4.heap.objs.size code X.env) fp) ps σ3 H3 s3 → gs'.bare = true → (∀ b o, s3.heap.get? b = some o → h3.get? b = some o) → Inv X pins σ H3 { s3.setGen s4.gens.size gs' with heap := h3 } := fun {H3 s3 σ3 ps gs' h3} I hb hk => by
    have J : Inv X pins σ H3 s3 := I4.call' (ch := fp) I.os I.base I.hok I.bare fun b hb => ⟨(f4 b hb).1.2.2.2.1, (f4 b hb).1.2.1, (f4 b hb).1.2.2.2.2.1, (f4 b hb).1.2.2.2.2.2⟩
    have z := Inv.gensTo (g' := (s3.setGen s4.gens.size gs').gens) (h' := h3) J (AllBare.setGen J.bare hb) hk
    exact z
  refine ⟨s4.heap.objs.size + 1, s4.gens.size, m0 + 1, .fresh (.compStart (.GeneratorExp elt [⟨tg, iter, ifs, 0⟩] scope gpos) 0 (.ref it) .none (gEnv scope s4.heap.objs.size code X.env)), rfl, hgen _ hgo, I4.nolimit.keeps kp, by simp, rfl, ?_⟩
  have Ig2 := Inv.gensTo (g' := (({ s4 with heap := h', gens := s4.gens.push (.fresh (.compStart (.GeneratorExp elt [⟨tg, iter, ifs, 0⟩] scope gpos) 0 (.ref it) .none (gEnv scope s4.heap.objs.size code X.env))), toks := tk } : Shared).setGen s4.gens.size .running).gens) (h' := h') Ig (AllBare.setGen Ig.bare rfl) (fun _ _ e => e)
  have st5 : tn 0 h' := T.keep _ _ _ st4 fun b _ o e => kp b o e
  refine gen_start T st5 ?_
  refine gen_loop (X := X) (gn := s4.gens.size) (a := s4.heap.objs.size + 1) (go := go) (EndW := fun _ H => Q (.bl (!st)) H) _ rfl hcalm T (hgd _ _ _ _ _ _ hroom) (htd _ _ _ _ _ _ hroom) (hed _ _ _ _ _ _ hroom) wipe_wipe accU (fun hb => ?_) (by simp) (fun _ _ => by simp) (fun b hb => by simp at hb) hco GW ?_ ?_ m0 (m0 + 1) 0 () H2 _ _ [] (Nat.lt_succ_self _) w0 rfl Ig2 (fun _ h => by simp at h) st5 (fun b hb => (f4 b hb).1.1) (by simp [Shared.setGen])
  · exact absurd (f4 _ hb).2 (Nat.not_lt.mpr (Nat.le_succ _))
  · intro n s₀ acc H3 s3 σ3 ps hP I hz hg3 he
    exact ⟨rfl, fun h3 hk => ⟨.bl _, H3, back I rfl hk, rfl, he⟩⟩
  · intro n s₀ acc y v H3 s3 σ3 ps Nx kap hP I hz hg3 rv yw hk
    obtain ⟨b, rfl, yw⟩ := yw
    cases rv
    have pa := I.pin (s4.heap.objs.size + 1, go) (List.mem_append_right _ List.mem_cons_self)
    refine ⟨b, rfl, hgen _ pa.1, I.nolimit, hg3, I.bare, fun eb gs' hb => ?_, fun nb s'' ev => ?_⟩
    · rcases yw with ⟨_, q⟩ | ⟨nb, _⟩
      · exact ⟨.bl _, H3, back I hb (fun _ _ e => e), rfl, q⟩
      · exact absurd eb nb
    · rcases yw with ⟨eb, _⟩ | ⟨_, q⟩
      · exact absurd eb nb
      · exact hk () [] s'' q rfl ev
section
variable {c P : Addr} {elt tg iter : Expr} {ifs : List Expr} {scope : Scope} {own : List (Str × Nat)} {gpos p pos : Pos} {wi : TI} {g : TG} {tt : TT} {te : TE} {k : Nat}
theorem pe_allG (hr : Room (k + 1) X.A) (hcalm : X.calm = true) (hgl : Gl X "all") (hm : X.mg "all" = none) (hb : bootBuiltins "all" = some (.builtin "all")) (TB : GxR.TabB X.base X.mg c P) (hcode : X.env.code = .ref c) (ok : BlkOk X.N X.env.scope scope own) (hN : X.N.Nodup) (hi : PI X tg iter wi)
    (hgd : ∀ (s : Shared) (H : Hp) (C : Addr) (code : Value) (fp : List Addr) (it : Addr), Room k (X.A.in1.in1.over (gCode elt tg iter ifs scope gpos it (gEnv scope C code X.env)) []) → PG (gCx X (X.A.in1.in1.over (gCode elt tg iter ifs scope gpos it (gEnv scope C code X.env)) []) s H (gEnv scope C code X.env) fp) tg g)
    (htd : ∀ (s : Shared) (H : Hp) (C : Addr) (code : Value) (fp : List Addr) (it : Addr), Room k (X.A.in1.in1.over (gCode elt tg iter ifs scope gpos it (gEnv scope C code X.env)) []) → PTs (gCx X (X.A.in1.in1.over (gCode elt tg iter ifs scope gpos it (gEnv scope C code X.env)) []) s H (gEnv scope C code X.env) fp) ifs tt)
    (hed : ∀ (s : Shared) (H : Hp) (C : Addr) (code : Value) (fp : List Addr) (it : Addr), Room k (X.A.in1.in1.over (gCode elt tg iter ifs scope gpos it (gEnv scope C code X.env)) []) → PE (gCx X (X.A.in1.in1.over (gCode elt tg iter ifs scope gpos it (gEnv scope C code X.env)) []) s H (gEnv scope C code X.env) fp) elt te)
    (hco : scope.isCoroutine = false := by rfl) (hcell : ∀ y ∈ scope.names, y.2 ≠ .cell := by decide +kernel) (hdot : scope.names.lookup (".0" : Str) = some NameKind.local := by decide +kernel)
    (hs : ∀ v, genFold iter X.env v = pure v := by intro _; rfl) (he : starEach [.GeneratorExp elt [⟨tg, iter, ifs, 0⟩] scope gpos] X.env = (false, eval (.GeneratorExp elt [⟨tg, iter, ifs, 0⟩] scope gpos) X.env) :: starEach [] X.env := by rfl) :
    PE X (.Call (.Name "all" p) [.GeneratorExp elt [⟨tg, iter, ifs, 0⟩] scope gpos] [] pos) (tBG false P wi g tt te (own.map (·.2))) := by
  refine ⟨fun pins s σ H Q I h => ?_⟩
  refine wpAny_Call_Name_kw (ld_blt I hgl hm hb ?_)
  refine PyProof.Rows.callWith_builtin1 ?_ he (by rfl)
  rw [he]
  show wpAny _ _ (spliced ((false, eval (.GeneratorExp elt [⟨tg, iter, ifs, 0⟩] scope gpos) X.env) :: backTo pos (starEach [] X.env))) _ _ s
  refine Calls.spliced_cons (wpAny_mono (gen_make hr TB hcode ok hco hcell hdot hi hs I h) (fun v s' hm => ?_) fun _ _ e => e)
  refine Calls.spliced_nil ?_
  obtain ⟨a, gn, n, gs, rfl, hg, hl, hgs, hgo⟩ := gen_goes (P := P) hr hcalm ok hN hco hcell hgd htd hed hm
  refine call_function_tree F.kind_all F.plain_all F.entry_all (F.args_all1 _) ?_
  unfold Builtin.«all»
  refine wpAny_bind (m := oneArg "all" _) (wpAny_pure ?_)
  refine wpAny_bind (wpAny_pyIter_gen hg ?_)
  refine wpAny_pure ⟨plainId_quiet F.plain_all_loop _, codeAny_mono (all_loop_gen (A := X.A) (Fin := fun b s => EP X pins σ Q (Value.bool b) s) hr.hd (by show X.A.depth + 0 < _; have := hr.dp; omega) n gs s' hg hl hgs hgo) fun r s2 hq => ?_⟩
  obtain ⟨b, rfl, q⟩ := hq
  exact q
theorem pe_anyG (hr : Room (k + 1) X.A) (hcalm : X.calm = true) (hgl : Gl X "any") (hm : X.mg "any" = none) (hb : bootBuiltins "any" = some (.builtin "any")) (TB : GxR.TabB X.base X.mg c P) (hcode : X.env.code = .ref c) (ok : BlkOk X.N X.env.scope scope own) (hN : X.N.Nodup) (hi : PI X tg iter wi)
    (hgd : ∀ (s : Shared) (H : Hp) (C : Addr) (code : Value) (fp : List Addr) (it : Addr), Room k (X.A.in1.in1.over (gCode elt tg iter ifs scope gpos it (gEnv scope C code X.env)) []) → PG (gCx X (X.A.in1.in1.over (gCode elt tg iter ifs scope gpos it (gEnv scope C code X.env)) []) s H (gEnv scope C code X.env) fp) tg g)
    (htd : ∀ (s : Shared) (H : Hp) (C : Addr) (code : Value) (fp : List Addr) (it : Addr), Room k (X.A.in1.in1.over (gCode elt tg iter ifs scope gpos it (gEnv scope C code X.env)) []) → PTs (gCx X (X.A.in1.in1.over (gCode elt tg iter ifs scope gpos it (gEnv scope C code X.env)) []) s H (gEnv scope C code X.env) fp) ifs tt)
    (hed : ∀ (s : Shared) (H : Hp) (C : Addr) (code : Value) (fp : List Addr) (it : Addr), Room k (X.A.in1.in1.over (gCode elt tg iter ifs scope gpos it (gEnv scope C code X.env)) []) → PE (gCx X (X.A.in1.in1.over (gCode elt tg iter ifs scope gpos it (gEnv scope C code X.env)) []) s H (gEnv scope C code X.env) fp) elt te)
    (hco : scope.isCoroutine = false := by rfl) (hcell : ∀ y ∈ scope.names, y.2 ≠ .cell := by decide +kernel) (hdot : scope.names.lookup (".0" : Str) = some NameKind.local := by decide +kernel)
    (hs : ∀ v, genFold iter X.env v = pure v := by intro _; rfl) (he : starEach [.GeneratorExp elt [⟨tg, iter, ifs, 0⟩] scope gpos] X.env = (false, eval (.GeneratorExp elt [⟨tg, iter, ifs, 0⟩] scope gpos) X.env) :: starEach [] X.env := by rfl) :
    PE X (.Call (.Name "any" p) [.GeneratorExp elt [⟨tg, iter, ifs, 0⟩] scope gpos] [] pos) (tBG true P wi g tt te (own.map (·.2))) := by
  refine ⟨fun pins s σ H Q I h => ?_⟩
  refine wpAny_Call_Name_kw (ld_blt I hgl hm hb ?_)
  refine PyProof.Rows.callWith_builtin1 ?_ he (by rfl)
  rw [he]
  show wpAny _ _ (spliced ((false, eval (.GeneratorExp elt [⟨tg, iter, ifs, 0⟩] scope gpos) X.env) :: backTo pos (starEach [] X.env))) _ _ s
  refine Calls.spliced_cons (wpAny_mono (gen_make hr TB hcode ok hco hcell hdot hi hs I h) (fun v s' hm => ?_) fun _ _ e => e)
  refine Calls.spliced_nil ?_
  obtain ⟨a, gn, n, gs, rfl, hg, hl, hgs, hgo⟩ := gen_goes (P := P) hr hcalm ok hN hco hcell hgd htd hed hm
  refine call_function_tree F.kind_any F.plain_any F.entry_any (F.args_any1 _) ?_
  unfold Builtin.«any»
  refine wpAny_bind (m := oneArg "any" _) (wpAny_pure ?_)
  refine wpAny_bind (wpAny_pyIter_gen hg ?_)
  refine wpAny_pure ⟨plainId_quiet F.plain_any_loop _, codeAny_mono (any_loop_gen (A := X.A) (Fin := fun b s => EP X pins σ Q (Value.bool b) s) hr.hd (by show X.A.depth + 0 < _; have := hr.dp; omega) n gs s' hg hl hgs hgo) fun r s2 hq => ?_⟩
  obtain ⟨b, rfl, q⟩ := hq
  exact q
end
end
/-! ### on data -/
section
variable {c : Gh}
theorem Rel.tabbed {G H1 H2 : Hp} {L : List T3} {P : Addr} (r : Rel c G H1 L) (hP : GxR.TabG H1 P) (t : GxR.Tabbed P H1 H2) : Rel c G H2 L := by
  obtain ⟨ps, e1, _⟩ := hP
  have np : ∀ a o, un G c.B a = some o → a ≠ P := fun a o e z => by
    have h1 := r.pu a o e
    have h2 := (r.sub.of_un r.subB) a o e
    rw [z, e1] at h2
    cases h2
    exact h1
  have nG : ∀ a o, G a = some o → a ≠ P := fun a o e => np a o (Sub.un_l G c.B a o e)
  have nB : ∀ a o, c.B a = some o → a ≠ P := fun a o e z => by
    cases q : G a with
    | none => exact np a o (by unfold un; rw [q]; exact e) z
    | some u => exact nG a u q z
  obtain ⟨F, h, n, q⟩ := r.own
  refine ⟨fun a o e => by rw [t.2 a (nG a o e)]; exact r.sub a o e, fun a o e => by rw [t.2 a (nB a o e)]; exact r.subB a o e, r.pu, fun P' hP' => ?_, F, Reps.keep (fun a ha => ?_) h, n, q⟩
  · by_cases z : P' = P
    · rw [z]; exact t.1
    · obtain ⟨ps', e, z'⟩ := r.tab P' hP'
      exact ⟨ps', by rw [t.2 P' z]; exact e, z'⟩
  · refine t.2 a fun z => ?_
    obtain ⟨xs, e, hx⟩ := h.some a ha
    rw [z, e1] at e
    cases e
    rcases hx with ⟨_, hx⟩ | ⟨_, hx⟩ <;> cases hx
def gbD (st : Bool) (vs : List Nat) (g : FG) (tt : FT) (te : FE) : List D → SS → M (Bool × SS)
  | [], S => .ok (!st, S)
  | d :: ds, S => do
    let S1 ← g (.sh, d) S
    let (b, S2) ← tt S1
    if b then do
      let (r, S3) ← te S2
      match r.2 with
      | .bool b' => if b' = st then pure (st, wipeS vs S3) else gbD st vs g tt te ds (wipeS vs S3)
      | _ => stk
    else gbD st vs g tt te ds (wipeS vs S2)
def fGB (st : Bool) (n : Nat) (vs : List Nat) (fi : FI) (g : FG) (tt : FT) (te : FE) : FE := fun S => do
  let (ds, S1) ← fi S
  if S1.length = n then do
    let (b, S2) ← gbD st vs g tt te ds (wipeS vs S1)
    pure ((.sh, .bool b), mrg (inP vs) 0 S1 S2)
  else stk
theorem gb_read {st : Bool} {P : Addr} {n : Nat} {vs : List Nat} {fi : FI} {g : FG} {tt : FT} {te : FE} {σ : L2.St} {H : Hp} {Q : VK} (hP : P ∈ c.T) (h : tE c (fGB st n vs fi g tt te) σ H Q) : tBG st P (tId c fi) (tGd c (outP n vs) g) (tT c tt) (tE c te) vs σ H Q := by
  obtain ⟨G, S, R, ok, r, S', e, k⟩ := h
  obtain ⟨⟨ds, S1⟩, e1, e⟩ := bind_ok e
  by_cases hn : S1.length = n
  · dsimp only at e
    rw [if_pos hn] at e
    obtain ⟨⟨bf, S2f⟩, e2, e⟩ := bind_ok e
    cases e
    refine ⟨G, S, R, ok, ds, S1, e1, fun J G1 H1 s1 ok1 w => ⟨ok1.rel.tab P hP, fun H2 tb => ?_⟩⟩
    have ok2 : SOk c G1 H2 σ S1 R := ⟨ok1.cov, ok1.rel.tabbed (ok1.rel.tab P hP) tb⟩
    have hσ : σ.length = n := by rw [← ok1.cov.len]; exact hn
    have fin : ∀ {G' H' T}, Sub G1 G' → SOk c G' H' (wipe σ vs) T (stash vs σ S1 ++ R) → T = S2f → Q (.bl bf) H' := fun {G' H' T} s2 okT eT => by
      subst eT
      have z := SOk.unwip (L := []) ok2 okT
      exact k G' _ H' (s1.trans s2) ⟨z.cov, z.rel.put_sh (.bl _)⟩
    refine ⟨fun i m _ H' => m = ds.length - i ∧ i ≤ ds.length ∧ ∃ G' T, Sub G1 G' ∧ SOk c G' H' (wipe σ vs) T (stash vs σ S1 ++ R) ∧ gbD st vs g tt te (ds.drop i) T = .ok (bf, S2f), ⟨_, rfl, Nat.zero_le _, G1, _, Sub.refl _, ok2.wip, e2⟩, ⟨?_⟩⟩
    rintro i m acc H' ⟨rfl, hle, G', T, s2, okT, e3⟩
    by_cases hlt : i < ds.length
    · refine .inr ⟨w.go G' H' i s2 okT.sub hlt, fun _ H3 => ∃ G3 T3, Sub G1 G3 ∧ SOk c G3 H3 (wipe σ vs) T3 (stash vs σ S1 ++ R) ∧ gbD st vs g tt te (ds.drop (i + 1)) T3 = .ok (bf, S2f), fun _ H3 h3 => ⟨ds.length - (i + 1), by omega, rfl, hlt, h3⟩, fun x H3 y => ?_⟩
      rw [List.drop_eq_getElem_cons hlt] at e3
      obtain ⟨T1, e4, e3⟩ := bind_ok e3
      obtain ⟨⟨b, T2⟩, e5, e3⟩ := bind_ok e3
      obtain ⟨G3, s3, ok3⟩ := yld_sh w s2 okT (List.getElem?_eq_getElem hlt) y
      refine ⟨G3, T, _, _, ok3, T1, e4, fun G4 σ4 H4 s4 p4 ok4 => ⟨wipe_prot hσ p4, G4, T1, _, ok4, b, T2, e5, fun G5 H5 s5 ok5 => ?_⟩⟩
      cases b with
      | false => exact ⟨G5, _, ((s2.trans s3).trans s4).trans s5, ok5.rewip hσ p4, e3⟩
      | true =>
        simp only [if_true] at e3 ⊢
        obtain ⟨⟨⟨m1, d1⟩, T3⟩, e6, e3⟩ := bind_ok e3
        refine ⟨G5, T2, _, ok5, _, T3, e6, fun G6 yv H6 s6 ok6 => ?_⟩
        dsimp only at e3
        split at e3
        · rename_i b'
          cases bool_of ok6.rel
          have ok7 := SOk.rewip hσ p4 (S := T3) ⟨ok6.cov, ok6.rel.drop⟩
          have sA := ((((s2.trans s3).trans s4).trans s5).trans s6)
          refine ⟨b', rfl, ?_⟩
          by_cases hb : b' = st
          · rw [if_pos hb] at e3
            cases e3
            exact .inl ⟨hb, fin sA ok7 rfl⟩
          · rw [if_neg hb] at e3
            exact .inr ⟨hb, G6, _, sA, ok7, e3⟩
        · cases e3
    · have ei : i = ds.length := by omega
      subst ei
      rw [List.drop_length] at e3
      cases e3
      exact .inl ⟨w.stop G' H' s2 okT.sub, fin s2 okT rfl⟩
  · dsimp only at e
    rw [if_neg hn] at e
    cases e
end
section
variable {X : Cx} {c : Gh} {cd P : Addr} {elt tg iter : Expr} {ifs : List Expr} {scope : Scope} {own : List (Str × Nat)} {vs : List Nat} {gpos p pos : Pos} {fi : FI} {g : FG} {tt : FT} {te : FE} {k n : Nat}
/-- what a def with generator expressions has: its code object's table -/
structure GTab (X : Cx) (c : Gh) (cd P : Addr) : Prop where
  TB : GxR.TabB X.base X.mg cd P
  hcode : X.env.code = .ref cd
  mem : P ∈ c.T
theorem de_allG (gt : GTab X c cd P) (hr : Room (k + 1) X.A) (hcalm : X.calm = true) (hgl : Gl X "all") (hm : X.mg "all" = none) (hN : X.N.Nodup) (hi : PI X tg iter (tId c fi)) (ok : BlkOk X.N X.env.scope scope own)
    (hgd : ∀ (s : Shared) (H : Hp) (C : Addr) (code : Value) (fp : List Addr) (it : Addr), Room k (X.A.in1.in1.over (gCode elt tg iter ifs scope gpos it (gEnv scope C code X.env)) []) → PG (gCx X (X.A.in1.in1.over (gCode elt tg iter ifs scope gpos it (gEnv scope C code X.env)) []) s H (gEnv scope C code X.env) fp) tg (tGd c (outP n vs) g))
    (htd : ∀ (s : Shared) (H : Hp) (C : Addr) (code : Value) (fp : List Addr) (it : Addr), Room k (X.A.in1.in1.over (gCode elt tg iter ifs scope gpos it (gEnv scope C code X.env)) []) → PTs (gCx X (X.A.in1.in1.over (gCode elt tg iter ifs scope gpos it (gEnv scope C code X.env)) []) s H (gEnv scope C code X.env) fp) ifs (tT c tt))
    (hed : ∀ (s : Shared) (H : Hp) (C : Addr) (code : Value) (fp : List Addr) (it : Addr), Room k (X.A.in1.in1.over (gCode elt tg iter ifs scope gpos it (gEnv scope C code X.env)) []) → PE (gCx X (X.A.in1.in1.over (gCode elt tg iter ifs scope gpos it (gEnv scope C code X.env)) []) s H (gEnv scope C code X.env) fp) elt (tE c te))
    (hv : own.map (·.2) = vs := by rfl) (hco : scope.isCoroutine = false := by rfl) (hcell : ∀ y ∈ scope.names, y.2 ≠ .cell := by decide +kernel) (hdot : scope.names.lookup (".0" : Str) = some NameKind.local := by decide +kernel)
    (hs : ∀ v, genFold iter X.env v = pure v := by intro _; rfl) (he : starEach [.GeneratorExp elt [⟨tg, iter, ifs, 0⟩] scope gpos] X.env = (false, eval (.GeneratorExp elt [⟨tg, iter, ifs, 0⟩] scope gpos) X.env) :: starEach [] X.env := by rfl) :
    PE X (.Call (.Name "all" p) [.GeneratorExp elt [⟨tg, iter, ifs, 0⟩] scope gpos] [] pos) (tE c (fGB false n vs fi g tt te)) := by
  subst hv
  exact pemono (pe_allG hr hcalm hgl hm bt_all gt.TB gt.hcode ok hN hi hgd htd hed hco hcell hdot hs he) fun _ _ _ h => gb_read gt.mem h
theorem de_anyG (gt : GTab X c cd P) (hr : Room (k + 1) X.A) (hcalm : X.calm = true) (hgl : Gl X "any") (hm : X.mg "any" = none) (hN : X.N.Nodup) (hi : PI X tg iter (tId c fi)) (ok : BlkOk X.N X.env.scope scope own)
    (hgd : ∀ (s : Shared) (H : Hp) (C : Addr) (code : Value) (fp : List Addr) (it : Addr), Room k (X.A.in1.in1.over (gCode elt tg iter ifs scope gpos it (gEnv scope C code X.env)) []) → PG (gCx X (X.A.in1.in1.over (gCode elt tg iter ifs scope gpos it (gEnv scope C code X.env)) []) s H (gEnv scope C code X.env) fp) tg (tGd c (outP n vs) g))
    (htd : ∀ (s : Shared) (H : Hp) (C : Addr) (code : Value) (fp : List Addr) (it : Addr), Room k (X.A.in1.in1.over (gCode elt tg iter ifs scope gpos it (gEnv scope C code X.env)) []) → PTs (gCx X (X.A.in1.in1.over (gCode elt tg iter ifs scope gpos it (gEnv scope C code X.env)) []) s H (gEnv scope C code X.env) fp) ifs (tT c tt))
    (hed : ∀ (s : Shared) (H : Hp) (C : Addr) (code : Value) (fp : List Addr) (it : Addr), Room k (X.A.in1.in1.over (gCode elt tg iter ifs scope gpos it (gEnv scope C code X.env)) []) → PE (gCx X (X.A.in1.in1.over (gCode elt tg iter ifs scope gpos it (gEnv scope C code X.env)) []) s H (gEnv scope C code X.env) fp) elt (tE c te))
    (hv : own.map (·.2) = vs := by rfl) (hco : scope.isCoroutine = false := by rfl) (hcell : ∀ y ∈ scope.names, y.2 ≠ .cell := by decide +kernel) (hdot : scope.names.lookup (".0" : Str) = some NameKind.local := by decide +kernel)
    (hs : ∀ v, genFold iter X.env v = pure v := by intro _; rfl) (he : starEach [.GeneratorExp elt [⟨tg, iter, ifs, 0⟩] scope gpos] X.env = (false, eval (.GeneratorExp elt [⟨tg, iter, ifs, 0⟩] scope gpos) X.env) :: starEach [] X.env := by rfl) :
    PE X (.Call (.Name "any" p) [.GeneratorExp elt [⟨tg, iter, ifs, 0⟩] scope gpos] [] pos) (tE c (fGB true n vs fi g tt te)) := by
  subst hv
  exact pemono (pe_anyG hr hcalm hgl hm bt_any gt.TB gt.hcode ok hN hi hgd htd hed hco hcell hdot hs he) fun _ _ _ h => gb_read gt.mem h
end
end O
set_option maxRecDepth 100000
set_option maxHeartbeats 2000000
namespace O
open PySem PySem.Spec PyProof.Rows L2
open Sem (wp)

abbrev sObj (a : Int) (t : Tok) (c : Nat) : Obj := { cls := .type "list", dict := none, data := .seq #[.int a t] c, slots := #[] }
section
variable {prog : Program} {w : World} {A : Around} {a : Addr} {g : Nat} {S : Addr} {Fin : Int → Shared → Prop}
def YSum (a : Addr) (g : Nat) (S : Addr) : Protocol := fun n s₀ v s kap => ∃ i tv acc t c, v = .int i tv ∧ s₀.heap.get? S = some (sObj acc t c) ∧ s.heap.get? S = some (sObj acc t c) ∧ s.heap.IsGen a g ∧ s.heap.NoLimit ∧ g < s.gens.size ∧ AllBare s.gens ∧
  ∀ t' c' s'', Evo [S] [(S, sObj (acc + i) t' c')] s s'' → kap (.send .none) s''
def PSum (g : Nat) (S : Addr) (Fin : Int → Shared → Prop) : Nat → Shared → Shared → Prop := fun n s₀ s => ∃ acc t c, s₀.heap.get? S = some (sObj acc t c) ∧ ∀ h', (∀ b o, s.heap.get? b = some o → h'.get? b = some o) → Fin acc { s.setGen g .finished with heap := h' }
theorem sum_loop_gen (hh : A.handled = none) (hroom : A.in1.depth < recursionLimit) (haS : a ≠ S) (hcS : cStatics ≠ S) : ∀ (n : Nat) (gs : GenState) (s : Shared) (acc : Int) (tA : Tok) (c : Nat) (st : Int), (st = 0 ∨ st = 2) → s.heap.IsGen a g → s.heap.NoLimit → s.gens[g]? = some gs → s.heap.get? S = some (sObj acc tA c) →
    gs.Goes (model prog w) A.in1.in1 (fun n s₀ r s₁ => r = .ok .next ∧ PSum g S Fin n s₀ s₁) (YSum a g S) n (.send .none) (s.setGen g .running) →
    codeAny (model prog w) A (.builtin "sum.loop" ⟨[.ref a, .ref S, rawInt st, rawInt 0], []⟩) (fun r s' => ∃ b t, r = .ok (.ret (.int b t)) ∧ Fin b s') s := by
  intro n
  induction n with
  | zero =>
    intro gs s acc tA c st hst2 hg hl hgs hS hgo
    refine codeAny_builtin F.entry_sum_loop ?_
    rw [Around.under_plainId F.plain_sum_loop _]
    show wpAny _ A.in1 (seqItems? (.ref S) >>= _) _ _ s
    refine wpAny_bind (wpAny_seqItems hS rfl ?_)
    show wpAny _ A.in1 (tryCatch (pyNext (.ref a)) _ >>= _) _ _ s
    refine wpAny_bind (wpAny_tryCatch (wpAny_pyNext_genexpQ (A := A.in1) hh hl hroom hg hgs hgo (fun v s₁ gs' hb hv => ?_) (fun s₁ hp h' hk => ?_)))
    · obtain ⟨i, tv, acc', t, c', rfl, e0, e1, h1, h2, h3, h4, h5⟩ := hv
      exact absurd (h5 0 0 { s₁ with heap := s₁.heap.update S (fun _ => sObj (acc' + i) 0 0) } ⟨rfl, h4, Nat.le_refl _, fun b o hb e => (Heap.get?_update_other _ _ (fun h : S = b => hb (by rw [h]; exact List.mem_singleton.mpr rfl))).trans e, fun p hp => by
        have : p = (S, sObj (acc' + i) 0 0) := by simpa using hp
        subst this
        exact Heap.get?_update_self _ e1 rfl⟩) (by exact id)
    · obtain ⟨acc', t, c', e0, hF⟩ := hp
      have e0 : s.heap.get? S = some (sObj acc' t c') := e0
      rw [hS] at e0
      cases e0
      exact wpAny_pure ⟨acc, tA, rfl, hF h' hk⟩
  | succ n ih =>
    intro gs s acc tA c st hst2 hg hl hgs hS hgo
    refine codeAny_builtin F.entry_sum_loop ?_
    rw [Around.under_plainId F.plain_sum_loop _]
    show wpAny _ A.in1 (seqItems? (.ref S) >>= _) _ _ s
    refine wpAny_bind (wpAny_seqItems hS rfl ?_)
    show wpAny _ A.in1 (tryCatch (pyNext (.ref a)) _ >>= _) _ _ s
    refine wpAny_bind (wpAny_tryCatch (wpAny_pyNext_genexpQ (A := A.in1) hh hl hroom hg hgs hgo (fun v s₁ gs' hb hv => ?_) (fun s₁ hp h' hk => ?_)))
    · obtain ⟨i, tv, acc', t, c', rfl, e0, hS', h1, h2, h3, h4, h5⟩ := hv
      have e0 : s.heap.get? S = some (sObj acc' t c') := e0
      rw [hS] at e0
      cases e0
      have evo : ∀ (h2 : Heap) (tk : Nat) (t' : Tok) (c' : Nat), (∀ b o, b ≠ S → s₁.heap.get? b = some o → h2.get? b = some o) → h2.get? S = some (sObj (acc + i) t' c') →
          (({ s₁.setGen g gs' with heap := h2, toks := tk } : Shared).heap.IsGen a g ∧ ({ s₁.setGen g gs' with heap := h2, toks := tk } : Shared).heap.NoLimit ∧ gs'.Goes (model prog w) A.in1.in1 (fun n s₀ r s₁ => r = .ok .next ∧ PSum g S Fin n s₀ s₁) (YSum a g S) n (.send .none) (({ s₁.setGen g gs' with heap := h2, toks := tk } : Shared).setGen g .running)) := fun h2' tk t' c' hk hs => by
        refine ⟨?_, ?_, h5 t' c' _ ⟨rfl, AllBare.setGen (s := { s₁.setGen g gs' with heap := h2', toks := tk }) (AllBare.setGen (s := s₁) h4 hb) rfl, by simp [Shared.setGen], fun b o hb' e => hk b o (fun z => hb' (by rw [z]; exact List.mem_singleton.mpr rfl)) e, fun p hp => ?_⟩⟩
        · obtain ⟨o, nm, qn, ho, r⟩ := h1
          exact ⟨o, nm, qn, hk a o haS ho, r⟩
        · obtain ⟨mc, hns, hnn⟩ := h2
          exact ⟨mc, hns.at' fun o e => hk cStatics o hcS e, hnn⟩
        · have : p = (S, sObj (acc + i) t' c') := by simpa using hp
          subst this
          exact hs
      have gg : ∀ (h2 : Heap) (tk : Nat), ({ s₁.setGen g gs' with heap := h2, toks := tk } : Shared).gens[g]? = some gs' := fun _ _ => setGen_get h3
      rcases hst2 with rfl | rfl
      · show wpAny _ A.in1 (if (_ : Bool) = true then (mkInt (acc + i) >>= _) else _) _ _ _
        split
        · refine wpAny_bind (wpAny_mkInt ?_)
          show wpAny _ A.in1 (updateSeq S (fun _ => #[.int (acc + i) s₁.toks]) >>= _) _ _ _
          refine wpAny_bind ?_
          refine wpAny_updateSeq hS' rfl (wpAny_pure ⟨plainId_quiet F.plain_sum_loop _, ?_⟩)
          have hs2 := Heap.get?_update_self (Obj.mapSeq fun _ => #[Value.int (acc + i) s₁.toks]) hS' rfl
          obtain ⟨q1, q2, q3⟩ := evo _ (s₁.toks + 1) _ _ (fun b o hb e => (Heap.get?_update_other _ _ (Ne.symm hb)).trans e) hs2
          exact ih gs' _ _ _ _ 0 (.inl rfl) q1 q2 (gg _ _) hs2 q3
        · refine wpAny_bind (wpAny_rule ?_)
          refine wpAny_bind (wpAny_attempt (wpAny_holding (wpAny_add_int ?_)))
          show wpAny _ A.in1 (updateSeq S (fun _ => #[.int (acc + i) s₁.toks]) >>= _) _ _ _
          refine wpAny_bind (wpAny_updateSeq hS' rfl ?_)
          have hS₂ := Heap.get?_update_self (Obj.mapSeq fun _ => #[Value.int (acc + i) s₁.toks]) hS' rfl
          refine wpAny_bind (wpAny_letGo ?_)
          refine wpAny_bind (wpAny_updateSeq hS₂ rfl (wpAny_pure ⟨plainId_quiet F.plain_sum_loop _, ?_⟩))
          have hs3 := Heap.get?_update_self (Obj.mapSeq fun _ => #[Value.int (acc + i) s₁.toks]) hS₂ rfl
          obtain ⟨q1, q2, q3⟩ := evo _ (s₁.toks + 1) _ _ (fun b o hb e => (Heap.get?_update_other _ _ (Ne.symm hb)).trans ((Heap.get?_update_other _ _ (Ne.symm hb)).trans e)) hs3
          exact ih gs' _ _ _ _ 2 (.inr rfl) q1 q2 (gg _ _) hs3 q3
      · show wpAny _ A.in1 ((holding [Value.int i tv] (binaryOp .Add (.int acc tA) (.int i tv))).attempt >>= _) _ _ _
        refine wpAny_bind (wpAny_attempt (wpAny_holding (wpAny_add_int ?_)))
        show wpAny _ A.in1 (updateSeq S (fun _ => #[.int (acc + i) s₁.toks]) >>= _) _ _ _
        refine wpAny_bind (wpAny_updateSeq hS' rfl ?_)
        have hS₂ := Heap.get?_update_self (Obj.mapSeq fun _ => #[Value.int (acc + i) s₁.toks]) hS' rfl
        refine wpAny_bind (wpAny_letGo ?_)
        refine wpAny_bind (wpAny_updateSeq hS₂ rfl (wpAny_pure ⟨plainId_quiet F.plain_sum_loop _, ?_⟩))
        have hs3 := Heap.get?_update_self (Obj.mapSeq fun _ => #[Value.int (acc + i) s₁.toks]) hS₂ rfl
        obtain ⟨q1, q2, q3⟩ := evo _ (s₁.toks + 1) _ _ (fun b o hb e => (Heap.get?_update_other _ _ (Ne.symm hb)).trans ((Heap.get?_update_other _ _ (Ne.symm hb)).trans e)) hs3
        exact ih gs' _ _ _ _ 2 (.inr rfl) q1 q2 (gg _ _) hs3 q3
    · obtain ⟨acc', t, c', e0, hF⟩ := hp
      have e0 : s.heap.get? S = some (sObj acc' t c') := e0
      rw [hS] at e0
      cases e0
      exact wpAny_pure ⟨acc, tA, rfl, hF h' hk⟩
end
def YwS : Int → V → Hp → (Int → Hp → Prop) → Prop := fun acc y H Nx => ∃ i, y = .int i ∧ Nx (acc + i) H
def tSG (P : Addr) (wi : TI) (g : TG) (tt : TT) (te : TE) (vs : List Nat) : TE := fun σ H Q => wi σ H fun J H1 => GxR.TabG H1 P ∧ ∀ H2, GxR.Tabbed P H1 H2 → ∃ W : Nat → Nat → Int → Hp → Prop, (∃ m, W 0 m 0 H2) ∧ GWalk J g tt te vs (wipe σ vs) YwS (fun acc H => Q (.int acc) H) W
abbrev accS (S : Addr) : AccK Int := ⟨[S], fun a ps => ∃ t c, ps = [(S, sObj a t c)], fun _ _ ⟨_, _, h⟩ => by rw [h]; rfl, fun _ _ ⟨_, _, h⟩ p hp v => by
  rw [h] at hp
  rw [List.mem_singleton.mp hp]
  intro z
  cases z⟩
section
variable {X : Cx} {pins : List (Addr × Obj)} {σ : L2.St} {H : Hp} {s : Shared}
theorem gen_goesS {P : Addr} {elt tg iter : Expr} {ifs : List Expr} {scope : Scope} {own : List (Str × Nat)} {gpos : Pos} {g : TG} {tt : TT} {te : TE} {k : Nat} {Q : VK} {v : Value} {s' : Shared} {t0 : Tok} {c0 tk0 : Nat}
    (hr : Room (k + 1) X.A) (hcalm : X.calm = true) (ok : BlkOk X.N X.env.scope scope own) (hN : X.N.Nodup) (hco : scope.isCoroutine = false) (hcell : ∀ y ∈ scope.names, y.2 ≠ .cell)
    (hgd : ∀ (s : Shared) (H : Hp) (C : Addr) (code : Value) (fp : List Addr) (it : Addr), Room k (X.A.in1.in1.over (gCode elt tg iter ifs scope gpos it (gEnv scope C code X.env)) []) → PG (gCx X (X.A.in1.in1.over (gCode elt tg iter ifs scope gpos it (gEnv scope C code X.env)) []) s H (gEnv scope C code X.env) fp) tg g)
    (htd : ∀ (s : Shared) (H : Hp) (C : Addr) (code : Value) (fp : List Addr) (it : Addr), Room k (X.A.in1.in1.over (gCode elt tg iter ifs scope gpos it (gEnv scope C code X.env)) []) → PTs (gCx X (X.A.in1.in1.over (gCode elt tg iter ifs scope gpos it (gEnv scope C code X.env)) []) s H (gEnv scope C code X.env) fp) ifs tt)
    (hed : ∀ (s : Shared) (H : Hp) (C : Addr) (code : Value) (fp : List Addr) (it : Addr), Room k (X.A.in1.in1.over (gCode elt tg iter ifs scope gpos it (gEnv scope C code X.env)) []) → PE (gCx X (X.A.in1.in1.over (gCode elt tg iter ifs scope gpos it (gEnv scope C code X.env)) []) s H (gEnv scope C code X.env) fp) elt te)
    (hm : Made X pins σ tg elt iter ifs scope gpos (fun J H2 => ∃ W : Nat → Nat → Int → Hp → Prop, (∃ m, W 0 m 0 H2) ∧ GWalk J g tt te (own.map (·.2)) (wipe σ (own.map (·.2))) YwS (fun acc H => Q (.int acc) H) W) v s') :
    ∃ (a : Addr), v = .ref a ∧ ∃ (gn n : Nat) (gs : GenState), s'.heap.IsGen a gn ∧ a ≠ s'.heap.objs.size ∧ s'.heap.NoLimit ∧ s'.gens[gn]? = some gs ∧
      gs.Goes (model X.prog X.w) X.A.in1.in1 (fun n s₀ r s₁ => r = .ok .next ∧ PSum gn s'.heap.objs.size (fun b s => ∀ t, EP X pins σ Q (.int b t) s) n s₀ s₁) (YSum a gn s'.heap.objs.size) n (.send .none) (({ s' with heap := s'.heap.push (sObj 0 t0 c0), toks := tk0 } : Shared).setGen gn .running) := by
  obtain ⟨s4, H2, it, fp, tn, J, code, go, h', tk, m, rfl, I4, T, st4, f4, ⟨W, ⟨m0, w0⟩, GW⟩, rfl, hn, kp, hgo, hgen, hgc, hsz⟩ := hm
  have hA : (X.A.in1.in1.over (gCode elt tg iter ifs scope gpos it (gEnv scope s4.heap.objs.size code X.env)) []).handled = none := hr.hd
  have hF : (X.A.in1.in1.over (gCode elt tg iter ifs scope gpos it (gEnv scope s4.heap.objs.size code X.env)) []).frames = some (gEnv scope s4.heap.objs.size code X.env :: X.stack) := over_frames (show X.A.in1.in1.frames = some X.stack from I4.ok.frames) rfl
  have Ig := gen_inv (fp := fp) (code := code) (gs := .fresh (.compStart (.GeneratorExp elt [⟨tg, iter, ifs, 0⟩] scope gpos) 0 (.ref it) .none (gEnv scope s4.heap.objs.size code X.env))) (tk := tk) I4 ok hN hcell f4 hA hF hn kp hgo (Nat.lt_succ_self _) hgc rfl
  have hroom := room_gen (elt := elt) (tg := tg) (iter := iter) (ifs := ifs) (scope := scope) (pos := gpos) (it := it) (genv := gEnv scope s4.heap.objs.size code X.env) hr
  have back : ∀ {H3 : Hp} {s3 : Shared} {σ3 : L2.St} {ps : List (Addr × Obj)} {gs' : GenState} {h3 : Heap}, Inv (gCx X (X.A.in1.in1.over (gCode elt tg iter ifs scope gpos it (gEnv scope s4.heap.objs.size code X.env)) []) s4 H2 (gEnv scope s4.heap.objs.size code X.env) fp) ps σ3 H3 s3 → gs'.bare = true → (∀ b o, s3.heap.get? b = some o → h3.get? b = some o) → Inv X pins σ H3 { s3.setGen s4.gens.size gs' with heap := h3 } := fun {H3 s3 σ3 ps gs' h3} I hb hk => by
    have J : Inv X pins σ H3 s3 := I4.call' (ch := fp) I.os I.base I.hok I.bare fun b hb => ⟨(f4 b hb).1.2.2.2.1, (f4 b hb).1.2.1, (f4 b hb).1.2.2.2.2.1, (f4 b hb).1.2.2.2.2.2⟩
    have z := Inv.gensTo (g' := (s3.setGen s4.gens.size gs').gens) (h' := h3) J (AllBare.setGen J.bare hb) hk
    exact z
  have hlt : s4.heap.objs.size < h'.objs.size := by rw [hsz]; exact Nat.lt_succ_of_lt (Nat.lt_succ_self _)
  refine ⟨s4.heap.objs.size + 1, rfl, s4.gens.size, m0 + 1, .fresh (.compStart (.GeneratorExp elt [⟨tg, iter, ifs, 0⟩] scope gpos) 0 (.ref it) .none (gEnv scope s4.heap.objs.size code X.env)), hgen _ hgo, ?_, I4.nolimit.keeps kp, by simp, rfl, ?_⟩
  · show s4.heap.objs.size + 1 ≠ h'.objs.size
    rw [hsz]
    exact Nat.ne_of_lt (Nat.lt_succ_self _)
  have kp5 : ∀ b o, h'.get? b = some o → (h'.push (sObj 0 t0 c0)).get? b = some o := fun b o e => Heap.get?_push_of_some _ e
  have Ig1 := Ig.kept (t' := tk0) kp5
  have hSg : (h'.push (sObj 0 t0 c0)).get? h'.objs.size = some (sObj 0 t0 c0) := Heap.get?_push_size _ rfl
  have Ig2 := Inv.gensTo (g' := (({ s4 with heap := h', gens := s4.gens.push (.fresh (.compStart (.GeneratorExp elt [⟨tg, iter, ifs, 0⟩] scope gpos) 0 (.ref it) .none (gEnv scope s4.heap.objs.size code X.env))), toks := tk } : Shared).setGen s4.gens.size .running).gens) (h' := h'.push (sObj 0 t0 c0)) Ig1 (AllBare.setGen Ig.bare rfl) (fun _ _ e => e)
  have Ig3 := Inv.pins_of (pins' := [(s4.heap.objs.size + 1, go), (h'.objs.size, sObj 0 t0 c0)]) Ig2 (fun p hp => by
    rcases List.mem_cons.mp hp with rfl | hp
    · exact Ig2.pin _ (List.mem_append_right _ List.mem_cons_self)
    · have : p = (h'.objs.size, sObj 0 t0 c0) := by simpa using hp
      subst this
      refine ⟨hSg, I4.hok.fresh (Nat.le_of_lt hlt), Nat.ne_of_gt hlt, fun z => ?_, fun v z => by cases z⟩
      have hb := (I4.stack.mem z).2.choose_spec.1
      exact Nat.lt_irrefl _ (Nat.lt_trans hlt (Heap.lt_size hb)))
  have st5 : tn 0 (h'.push (sObj 0 t0 c0)) := T.keep _ _ _ st4 fun b _ o e => kp5 b o (kp b o e)
  refine gen_start T st5 ?_
  refine gen_loop (X := X) (gn := s4.gens.size) (a := s4.heap.objs.size + 1) (go := go) (EndW := fun acc H => Q (.int acc) H) _ rfl hcalm T (hgd _ _ _ _ _ _ hroom) (htd _ _ _ _ _ _ hroom) (hed _ _ _ _ _ _ hroom) wipe_wipe (accS h'.objs.size) (fun hb => ?_) (fun hb => ?_) (fun b hb z => ?_) (fun b hb => ?_) hco GW ?_ ?_ m0 (m0 + 1) 0 0 H2 _ _ [(h'.objs.size, sObj 0 t0 c0)] (Nat.lt_succ_self _) w0 ⟨t0, c0, rfl⟩ Ig3 (fun p hp => by
      have : p = (h'.objs.size, sObj 0 t0 c0) := by simpa using hp
      subst this
      exact hSg) st5 (fun b hb => (f4 b hb).1.1) (by simp [Shared.setGen])
  · exact absurd (f4 _ hb).2 (Nat.not_lt.mpr (Nat.le_succ _))
  · have : s4.heap.objs.size + 1 = h'.objs.size := by simpa using hb
    rw [hsz] at this
    exact absurd this (Nat.ne_of_lt (Nat.lt_succ_self _))
  · have : b = h'.objs.size := by simpa using z
    rw [this] at hb
    exact absurd (Nat.lt_trans hlt (f4 _ hb).2) (Nat.lt_irrefl _)
  · have : b = h'.objs.size := by simpa using hb
    subst this
    refine ⟨Nat.le_of_lt hlt, fun x cc e z => ?_⟩
    obtain ⟨w, q⟩ := Ig.cell x cc e
    have hq := Ig2.pin (s4.heap.objs.size + 1, go) (List.mem_append_right _ List.mem_cons_self)
    have hlt2 : cc < h'.objs.size := q.lt
    rw [z] at hlt2
    exact Nat.lt_irrefl _ hlt2
  · intro n s₀ acc H3 s3 σ3 ps hP I hz hg3 he
    obtain ⟨t, c, rfl⟩ := hP
    exact ⟨rfl, acc, t, c, hz _ List.mem_cons_self, fun h3 hk t2 => ⟨.int acc, H3, back I rfl hk, ⟨t2, rfl⟩, he⟩⟩
  · intro n s₀ acc y v H3 s3 σ3 ps Nx kap hP I hz hg3 rv yw hk
    obtain ⟨t, c, rfl⟩ := hP
    obtain ⟨i, rfl, yw⟩ := yw
    obtain ⟨tv, rfl⟩ := rv
    have pa := I.pin (s4.heap.objs.size + 1, go) (List.mem_append_right _ List.mem_cons_self)
    have pS := I.pin (h'.objs.size, sObj acc t c) (List.mem_append_right _ (List.mem_cons_of_mem _ List.mem_cons_self))
    exact ⟨i, tv, acc, t, c, rfl, hz _ List.mem_cons_self, pS.1, hgen _ pa.1, I.nolimit, hg3, I.bare, fun t' c' s'' ev => hk (acc + i) [(h'.objs.size, sObj (acc + i) t' c')] s'' yw ⟨t', c', rfl⟩ ev⟩
theorem pe_sumG {c P : Addr} {elt tg iter : Expr} {ifs : List Expr} {scope : Scope} {own : List (Str × Nat)} {gpos p pos : Pos} {wi : TI} {g : TG} {tt : TT} {te : TE} {k : Nat}
    (hr : Room (k + 1) X.A) (hcalm : X.calm = true) (hgl : Gl X "sum") (hm : X.mg "sum" = none) (hb : bootBuiltins "sum" = some (.builtin "sum")) (TB : GxR.TabB X.base X.mg c P) (hcode : X.env.code = .ref c) (ok : BlkOk X.N X.env.scope scope own) (hN : X.N.Nodup) (hi : PI X tg iter wi)
    (hgd : ∀ (s : Shared) (H : Hp) (C : Addr) (code : Value) (fp : List Addr) (it : Addr), Room k (X.A.in1.in1.over (gCode elt tg iter ifs scope gpos it (gEnv scope C code X.env)) []) → PG (gCx X (X.A.in1.in1.over (gCode elt tg iter ifs scope gpos it (gEnv scope C code X.env)) []) s H (gEnv scope C code X.env) fp) tg g)
    (htd : ∀ (s : Shared) (H : Hp) (C : Addr) (code : Value) (fp : List Addr) (it : Addr), Room k (X.A.in1.in1.over (gCode elt tg iter ifs scope gpos it (gEnv scope C code X.env)) []) → PTs (gCx X (X.A.in1.in1.over (gCode elt tg iter ifs scope gpos it (gEnv scope C code X.env)) []) s H (gEnv scope C code X.env) fp) ifs tt)
    (hed : ∀ (s : Shared) (H : Hp) (C : Addr) (code : Value) (fp : List Addr) (it : Addr), Room k (X.A.in1.in1.over (gCode elt tg iter ifs scope gpos it (gEnv scope C code X.env)) []) → PE (gCx X (X.A.in1.in1.over (gCode elt tg iter ifs scope gpos it (gEnv scope C code X.env)) []) s H (gEnv scope C code X.env) fp) elt te)
    (hco : scope.isCoroutine = false := by rfl) (hcell : ∀ y ∈ scope.names, y.2 ≠ .cell := by decide +kernel) (hdot : scope.names.lookup (".0" : Str) = some NameKind.local := by decide +kernel)
    (hs : ∀ v, genFold iter X.env v = pure v := by intro _; rfl) (he : starEach [.GeneratorExp elt [⟨tg, iter, ifs, 0⟩] scope gpos] X.env = (false, eval (.GeneratorExp elt [⟨tg, iter, ifs, 0⟩] scope gpos) X.env) :: starEach [] X.env := by rfl) :
    PE X (.Call (.Name "sum" p) [.GeneratorExp elt [⟨tg, iter, ifs, 0⟩] scope gpos] [] pos) (tSG P wi g tt te (own.map (·.2))) := by
  refine ⟨fun pins s σ H Q I h => ?_⟩
  refine wpAny_Call_Name_kw (ld_blt I hgl hm hb ?_)
  refine PyProof.Rows.callWith_builtin1 ?_ he (by rfl)
  rw [he]
  show wpAny _ _ (spliced ((false, eval (.GeneratorExp elt [⟨tg, iter, ifs, 0⟩] scope gpos) X.env) :: backTo pos (starEach [] X.env))) _ _ s
  refine Calls.spliced_cons (wpAny_mono (gen_make hr TB hcode ok hco hcell hdot hi hs I h) (fun v s' hm => ?_) fun _ _ e => e)
  refine Calls.spliced_nil ?_
  obtain ⟨a, rfl, gn, n, gs, hg, hne, hl, hgs, hgo⟩ := gen_goesS (t0 := s'.toks) (c0 := 0) (tk0 := s'.toks + 1) (P := P) hr hcalm ok hN hco hcell hgd htd hed hm
  refine call_function_tree F.kind_sum F.plain_sum F.entry_sum (F.args_sum1 _) ?_
  unfold Builtin.«sum»
  simp only [List.length_cons, List.length_nil]
  rw [if_neg (by decide)]
  refine wpAny_bind (wpAny_of_eq (show Builtin.Builtins.bindParams "sum" ["start"] 0 { } = pure [none] from rfl) ?_)
  refine wpAny_bind (wpAny_pyIter_gen hg ?_)
  refine wpAny_bind (wpAny_mkInt ?_)
  refine wpAny_bind (wpAny_pure ?_)
  simp only [List.forIn_cons, List.forIn_nil]
  refine wpAny_bind (wpAny_bind (wpAny_bind (wpAny_isInstance (T := "int") (b := false) (typeIs_int _ _ _) PySem.sub_int_str ?_)))
  simp only [Bool.false_eq_true, if_false]
  refine wpAny_pure (wpAny_bind (wpAny_bind (wpAny_isInstance (T := "int") (b := false) (typeIs_int _ _ _) PySem.sub_int_bytes ?_)))
  simp only [Bool.false_eq_true, if_false]
  refine wpAny_pure (wpAny_bind (wpAny_bind (wpAny_isInstance (T := "int") (b := false) (typeIs_int _ _ _) PySem.sub_int_bytearray ?_)))
  simp only [Bool.false_eq_true, if_false]
  refine wpAny_pure (wpAny_pure ?_)
  refine wpAny_bind (wpAny_newObj_type ?_)
  have hcs : cStatics ≠ s'.heap.objs.size := fun e => by
    obtain ⟨_, hns, _⟩ := hl
    exact Nat.lt_irrefl _ (by have := hns.lt; rw [e] at this; exact this)
  refine wpAny_pure ⟨plainId_quiet F.plain_sum_loop _, codeAny_mono (sum_loop_gen (A := X.A) (Fin := fun b s => ∀ t, EP X pins σ Q (.int b t) s) hr.hd (by show X.A.depth + 0 < _; have := hr.dp; omega) hne hcs n gs _ 0 s'.toks 0 0 (.inl rfl) (hg.push _) (hl.push _) hgs (Heap.get?_push_size _ rfl) hgo) fun r s2 hq => ?_⟩
  obtain ⟨b, t, rfl, q⟩ := hq
  exact q t
end
/-! ### on data -/
def gsD (vs : List Nat) (g : FG) (tt : FT) (te : FE) : List D → Int → SS → M (Int × SS)
  | [], acc, S => .ok (acc, S)
  | d :: ds, acc, S => do
    let S1 ← g (.sh, d) S
    let (b, S2) ← tt S1
    if b then do
      let (r, S3) ← te S2
      match r.2 with
      | .int i => gsD vs g tt te ds (acc + i) (wipeS vs S3)
      | _ => stk
    else gsD vs g tt te ds acc (wipeS vs S2)
def fGS (n : Nat) (vs : List Nat) (fi : FI) (g : FG) (tt : FT) (te : FE) : FE := fun S => do
  let (ds, S1) ← fi S
  if S1.length = n then do
    let (b, S2) ← gsD vs g tt te ds 0 (wipeS vs S1)
    pure ((.sh, .int b), mrg (inP vs) 0 S1 S2)
  else stk
section
variable {c : Gh}
theorem gs_read {P : Addr} {n : Nat} {vs : List Nat} {fi : FI} {g : FG} {tt : FT} {te : FE} {σ : L2.St} {H : Hp} {Q : VK} (hP : P ∈ c.T) (h : tE c (fGS n vs fi g tt te) σ H Q) : tSG P (tId c fi) (tGd c (outP n vs) g) (tT c tt) (tE c te) vs σ H Q := by
  obtain ⟨G, S, R, ok, r, S', e, k⟩ := h
  obtain ⟨⟨ds, S1⟩, e1, e⟩ := bind_ok e
  by_cases hn : S1.length = n
  · dsimp only at e
    rw [if_pos hn] at e
    obtain ⟨⟨bf, S2f⟩, e2, e⟩ := bind_ok e
    cases e
    refine ⟨G, S, R, ok, ds, S1, e1, fun J G1 H1 s1 ok1 w => ⟨ok1.rel.tab P hP, fun H2 tb => ?_⟩⟩
    have ok2 : SOk c G1 H2 σ S1 R := ⟨ok1.cov, ok1.rel.tabbed (ok1.rel.tab P hP) tb⟩
    have hσ : σ.length = n := by rw [← ok1.cov.len]; exact hn
    refine ⟨fun i m acc H' => m = ds.length - i ∧ i ≤ ds.length ∧ ∃ G' T, Sub G1 G' ∧ SOk c G' H' (wipe σ vs) T (stash vs σ S1 ++ R) ∧ gsD vs g tt te (ds.drop i) acc T = .ok (bf, S2f), ⟨_, rfl, Nat.zero_le _, G1, _, Sub.refl _, ok2.wip, e2⟩, ⟨?_⟩⟩
    rintro i m acc H' ⟨rfl, hle, G', T, s2, okT, e3⟩
    by_cases hlt : i < ds.length
    · refine .inr ⟨w.go G' H' i s2 okT.sub hlt, fun acc3 H3 => ∃ G3 T3, Sub G1 G3 ∧ SOk c G3 H3 (wipe σ vs) T3 (stash vs σ S1 ++ R) ∧ gsD vs g tt te (ds.drop (i + 1)) acc3 T3 = .ok (bf, S2f), fun _ H3 h3 => ⟨ds.length - (i + 1), by omega, rfl, hlt, h3⟩, fun x H3 y => ?_⟩
      rw [List.drop_eq_getElem_cons hlt] at e3
      obtain ⟨T1, e4, e3⟩ := bind_ok e3
      obtain ⟨⟨b, T2⟩, e5, e3⟩ := bind_ok e3
      obtain ⟨G3, s3, ok3⟩ := yld_sh w s2 okT (List.getElem?_eq_getElem hlt) y
      refine ⟨G3, T, _, _, ok3, T1, e4, fun G4 σ4 H4 s4 p4 ok4 => ⟨wipe_prot hσ p4, G4, T1, _, ok4, b, T2, e5, fun G5 H5 s5 ok5 => ?_⟩⟩
      cases b with
      | false => exact ⟨G5, _, ((s2.trans s3).trans s4).trans s5, ok5.rewip hσ p4, e3⟩
      | true =>
        simp only [if_true] at e3 ⊢
        obtain ⟨⟨⟨m1, d1⟩, T3⟩, e6, e3⟩ := bind_ok e3
        refine ⟨G5, T2, _, ok5, _, T3, e6, fun G6 yv H6 s6 ok6 => ?_⟩
        dsimp only at e3
        split at e3
        · rename_i i'
          have hy := int_of ok6.rel (ok6.rel.view (m := m1) (v := yv) (d := .int i') (List.mem_append_left _ List.mem_cons_self))
          subst hy
          exact ⟨i', rfl, G6, _, ((((s2.trans s3).trans s4).trans s5).trans s6), SOk.rewip hσ p4 (S := T3) ⟨ok6.cov, ok6.rel.drop⟩, e3⟩
        · cases e3
    · have ei : i = ds.length := by omega
      subst ei
      rw [List.drop_length] at e3
      cases e3
      have z := SOk.unwip (L := []) ok2 okT
      exact .inl ⟨w.stop G' H' s2 okT.sub, k G' _ H' (s1.trans s2) ⟨z.cov, z.rel.put_sh (.int _)⟩⟩
  · dsimp only at e
    rw [if_neg hn] at e
    cases e
end
section
variable {X : Cx} {c : Gh} {cd P : Addr} {elt tg iter : Expr} {ifs : List Expr} {scope : Scope} {own : List (Str × Nat)} {vs : List Nat} {gpos p pos : Pos} {fi : FI} {g : FG} {tt : FT} {te : FE} {k n : Nat}
theorem de_sumG (gt : GTab X c cd P) (hr : Room (k + 1) X.A) (hcalm : X.calm = true) (hgl : Gl X "sum") (hm : X.mg "sum" = none) (hN : X.N.Nodup) (hi : PI X tg iter (tId c fi)) (ok : BlkOk X.N X.env.scope scope own)
    (hgd : ∀ (s : Shared) (H : Hp) (C : Addr) (code : Value) (fp : List Addr) (it : Addr), Room k (X.A.in1.in1.over (gCode elt tg iter ifs scope gpos it (gEnv scope C code X.env)) []) → PG (gCx X (X.A.in1.in1.over (gCode elt tg iter ifs scope gpos it (gEnv scope C code X.env)) []) s H (gEnv scope C code X.env) fp) tg (tGd c (outP n vs) g))
    (htd : ∀ (s : Shared) (H : Hp) (C : Addr) (code : Value) (fp : List Addr) (it : Addr), Room k (X.A.in1.in1.over (gCode elt tg iter ifs scope gpos it (gEnv scope C code X.env)) []) → PTs (gCx X (X.A.in1.in1.over (gCode elt tg iter ifs scope gpos it (gEnv scope C code X.env)) []) s H (gEnv scope C code X.env) fp) ifs (tT c tt))
    (hed : ∀ (s : Shared) (H : Hp) (C : Addr) (code : Value) (fp : List Addr) (it : Addr), Room k (X.A.in1.in1.over (gCode elt tg iter ifs scope gpos it (gEnv scope C code X.env)) []) → PE (gCx X (X.A.in1.in1.over (gCode elt tg iter ifs scope gpos it (gEnv scope C code X.env)) []) s H (gEnv scope C code X.env) fp) elt (tE c te))
    (hv : own.map (·.2) = vs := by rfl) (hco : scope.isCoroutine = false := by rfl) (hcell : ∀ y ∈ scope.names, y.2 ≠ .cell := by decide +kernel) (hdot : scope.names.lookup (".0" : Str) = some NameKind.local := by decide +kernel)
    (hs : ∀ v, genFold iter X.env v = pure v := by intro _; rfl) (he : starEach [.GeneratorExp elt [⟨tg, iter, ifs, 0⟩] scope gpos] X.env = (false, eval (.GeneratorExp elt [⟨tg, iter, ifs, 0⟩] scope gpos) X.env) :: starEach [] X.env := by rfl) :
    PE X (.Call (.Name "sum" p) [.GeneratorExp elt [⟨tg, iter, ifs, 0⟩] scope gpos] [] pos) (tE c (fGS n vs fi g tt te)) := by
  subst hv
  exact pemono (pe_sumG hr hcalm hgl hm bt_sum gt.TB gt.hcode ok hN hi hgd htd hed hco hcell hdot hs he) fun _ _ _ h => gs_read gt.mem h
end
end O
set_option maxRecDepth 100000
set_option maxHeartbeats 1000000
namespace O
open PySem PySem.Spec PyProof.Rows L2
/-! ### a def whose code object is known -/
structure DefC (K : PySem.W.Frag) (mg : Str → Option Value) (x : Str) (st : Stmt) (f : Addr) (fd : FuncData) (cd : Addr) : Prop where
  fn : ∃ (oc : Value) (od : Option Addr) (dV kV doc pm : Value) (an : Option Addr) (ct : Value) (osl : Array (Option Value)),
    fd = PySem.W.fnOf x x (C8.fnArgs st) (C8.fnBody st) (C8.fnScope st) dV kV doc pm an (.ref cd) ct ∧ K.lookup f = some ⟨oc, od, .func fd, osl⟩ ∧ PySem.W.codeIn K (.ref cd) x = true
  mgf : mg x = some (.ref f)
  kp : PySem.W.keepIn K (.ref f) = true
section
variable {P : Program} {w : World} {K : PySem.W.Frag} {mg : Str → Option Value} {base : Heap} {c : Gh}
theorem calDc {x : Str} {st : Stmt} {f : Addr} {fd : FuncData} {cd : Addr} {N ps : List Str} {k n : Nat} {io : List Nat} {body : FS} (F : DefC K mg x st f fd cd) (b : Binds K fd ps []) (S : FnScope N ps (C8.fnScope st)) (hn : ps.length = n) (hio : ∀ i ∈ io, i < n)
    (hb : ∀ (A : Around) (outer : List Env) (s : Shared) (H : Hp) (E : XK), Room k (A.deeper (envOfC x (C8.fnScope st) s.heap.objs.size f (.ref cd))) → PSs (cxOf C8.CX0 P w K mg base N x (C8.fnScope st) f (.ref cd) A outer s H E).nox (C8.fnBody st) (tS c io body)) :
    C8.Cal P w K mg base (k + 1) x (spD c n io (runD N.length io body)) [] := by
  obtain ⟨oc, od, dV, kV, doc, pm, an, ct, osl, rfl, lk, hcd⟩ := F.fn
  refine ⟨f, _, ps, [], fn_of lk hcd S (fun vs H Q E h => ?_) (fun A outer s H vs Q E hr h => ⟨_, (hb A outer s H E hr).nox, ?_⟩), F.mgf, F.kp, b, .nil⟩
  · obtain ⟨G, R, rs, _, _, hl, _⟩ := h
    rw [hl, hn]
  · obtain ⟨G, R, rs, rl, hl, hv, r, fs, e, kk⟩ := h
    obtain ⟨⟨fl, S'⟩, e1, e⟩ := bind_ok e
    obtain ⟨r', e2, e⟩ := bind_ok e
    obtain ⟨fs', e3, e⟩ := bind_ok e
    cases e
    have hlv : rs.length = vs.length := by omega
    have e0 : L2.start N vs = vs.map some ++ List.replicate (N.length - rs.length) none := by unfold L2.start; rw [hlv]
    refine ⟨G, rs.map some ++ List.replicate (N.length - rs.length) none, R, ?_, fl, S', e1, ?_⟩
    · rw [e0]
      refine ⟨cov_start hlv, ?_⟩
      rw [prs_start hlv]
      exact rl.perm List.perm_append_comm
    · cases fl with
      | nx =>
        cases e2
        exact fun G' σ' H' s p ok => kk G' .non H' s (ends_ok (r := (.sh, .none)) hv hio e0 p ⟨ok.cov, ok.rel.put_sh .non⟩ e3)
      | rt r =>
        cases e2
        exact fun G' v σ' H' s p ok => kk G' v H' s (ends_ok hv hio e0 p ok e3)
      | bk => cases e2
      | ct => cases e2
/-- the parameters are bound one by one -/
theorem DefC.binds {x : Str} {st : Stmt} {f : Addr} {fd : FuncData} {cd : Addr} {ps : List Str} (F : DefC K mg x st f fd cd) (hd : fd.defaults = .none)
    (h : ∀ (kV doc pm : Value) (an : Option Addr) (cdv ct : Value) (us : List Value), us.length = ps.length → bindArgs (PySem.W.fnOf x x (C8.fnArgs st) (C8.fnBody st) (C8.fnScope st) .none kV doc pm an cdv ct) ⟨us, []⟩ = pure (ps.zip us)) : Binds K fd ps [] := by
  obtain ⟨oc, od, dV, kV, doc, pm, an, ct, osl, rfl, lk, hcd⟩ := F.fn
  have e : dV = .none := hd
  subst e
  exact .all (h kV doc pm an (.ref cd) ct)
end
end O
set_option maxRecDepth 100000
set_option maxHeartbeats 1000000
namespace O
open PySem PySem.Spec PyProof.Rows L2
section
variable {X : Cx} {c : Gh} {P : List Nat} {pos : Pos}
/-! ### a list whose first item is a list of its own -/
theorem Rel.new_bx {G H : Hp} {b p : Addr} {es ds : List D} {vs : List V} {L : List T3} (r : Rel c G H ((.ow .sh, .ref b, .list es) :: L)) (hp : H p = none) (h : DqAll c.K G vs ds) : Rel c G (upd H p (.lst (.ref b :: vs))) ((.bx, .ref p, .list (.list es :: ds)) :: L) := by
  have r1 : Rel c G (upd H p (.lst (.ref b :: vs))) L := r.drop.laid hp
  obtain ⟨F, h0, n, q⟩ := r.own
  cases h0 with
  | cons a t =>
    rename_i F1 E
    obtain ⟨a, ws, es', ea, ed, h3, h4, h5⟩ := of_rep_ow a
    cases ea; cases ed
    subst h5
    have hb : b ≠ p := ne_of_none h3 hp
    refine ⟨r1.sub, r1.subB, r1.pu, r1.tab, [p, b] ++ E, .cons ⟨p, b, vs, ws, ds, es, rfl, rfl, upd_same, by rw [upd_ne hb]; exact h3, h, h4, rfl⟩ (Reps.keep (fun x hx => ?_) t), ?_, fun x hx => ?_⟩
    · obtain ⟨xs, e, _⟩ := t.some x hx
      rw [upd_ne (ne_of_none e hp)]
    · refine List.nodup_cons.mpr ⟨fun hm => ?_, n⟩
      rcases List.mem_cons.mp hm with z | z
      · exact hb z.symm
      · obtain ⟨xs, e, _⟩ := t.some p z
        rw [hp] at e; cases e
    · rcases List.mem_cons.mp hx with rfl | hx
      · exact r.fresh hp
      · exact q x hx
theorem Rel.bx_of {G H : Hp} {v : V} {d : D} {L : List T3} (r : Rel c G H ((.bx, v, d) :: L)) : ∃ a b vs ws ds es, v = .ref a ∧ d = .list (.list es :: ds) ∧ H a = some (.lst (.ref b :: vs)) ∧ H b = some (.lst ws) ∧ DqAll c.K G vs ds ∧ DqAll c.K G ws es ∧ a ≠ b := by
  obtain ⟨F, h, n, q⟩ := r.own
  cases h with
  | cons x t =>
    obtain ⟨a, b, vs, ws, ds, es, h1, h2, h3, h4, h5, h6, rfl⟩ := x
    refine ⟨a, b, vs, ws, ds, es, h1, h2, h3, h4, h5, h6, fun e => ?_⟩
    subst e
    have : (a :: a :: _ : List Addr).Nodup := n
    exact (List.nodup_cons.mp this).1 List.mem_cons_self
theorem Rel.bx_write {G H H' : Hp} {a b : Addr} {d : D} {L : List T3} {vs vs' ws' : List V} {ds es : List D} (r : Rel c G H ((.bx, .ref a, d) :: L)) (ha : H a = some (.lst (.ref b :: vs))) (k : ∀ x, x ≠ a → x ≠ b → H' x = H x) (ha' : H' a = some (.lst (.ref b :: vs'))) (hb' : H' b = some (.lst ws')) (h1 : DqAll c.K G vs' ds) (h2 : DqAll c.K G ws' es) :
    Rel c G H' ((.bx, .ref a, .list (.list es :: ds)) :: L) := by
  obtain ⟨F, h0, n, q⟩ := r.own
  cases h0 with
  | cons p t =>
    rename_i F1 E
    obtain ⟨a', b', vs0, ws0, ds0, es0, e1, e2, h3, h4, h5, h6, rfl⟩ := p
    cases e1
    rw [ha] at h3
    cases h3
    have na : ∀ x, x ∈ E → x ≠ a ∧ x ≠ b := fun x hx => by
      have n' : (a :: b :: E).Nodup := n
      refine ⟨fun e => ?_, fun e => ?_⟩
      · subst e; exact (List.nodup_cons.mp n').1 (List.mem_cons_of_mem _ hx)
      · subst e; exact (List.nodup_cons.mp (List.nodup_cons.mp n').2).1 hx
    have qa := q a List.mem_cons_self
    have qb := q b (List.mem_cons_of_mem _ List.mem_cons_self)
    have kG : ∀ x o, G x = some o → H' x = H x := fun x o e => k x (fun z => by subst z; rw [qa.1] at e; cases e) (fun z => by subst z; rw [qb.1] at e; cases e)
    have kB : ∀ x o, c.B x = some o → H' x = H x := fun x o e => k x (fun z => by subst z; rw [qa.2] at e; cases e) (fun z => by subst z; rw [qb.2] at e; cases e)
    refine ⟨fun x o e => by rw [kG x o e]; exact r.sub x o e, fun x o e => by rw [kB x o e]; exact r.subB x o e, r.pu, fun P hP => ?_, [a, b] ++ E, .cons ⟨a, b, vs', ws', ds, es, rfl, rfl, ha', hb', h1, h2, rfl⟩ (Reps.keep (fun x hx => k x (na x hx).1 (na x hx).2) t), n, q⟩
    obtain ⟨ps, e, z⟩ := r.tab P hP
    exact ⟨ps, by rw [k P (fun w => by subst w; rw [ha] at e; cases e) (fun w => by subst w; rw [h4] at e; cases e)]; exact e, z⟩
def fBx (f : FA) : FE := fun S => do
  let (ts, S1) ← f S
  match ts with
  | [.val (.ow .sh, .list cs), .val (.sh, d1), .val (.sh, d2)] => pure ((.bx, .list [.list cs, d1, d2]), S1)
  | _ => stk
theorem de_bx {e0 e1 e2 : Expr} {f : FA} (h : PA X [e0, e1, e2] (tA c f)) : PE X (.List [e0, e1, e2] pos) (tE c (fBx f)) := by
  refine pemono (pe_lst h) fun σ H Q q => ?_
  obtain ⟨G, S, R, ok, r, S', e, k⟩ := q
  obtain ⟨⟨ts, S1⟩, e1, e⟩ := bind_ok e
  dsimp only at e
  split at e
  · cases e
    refine ⟨G, S, R, ok, _, _, e1, fun G' vs H' s h1 ok' => ?_⟩
    cases h1 with
    | cons a1 h1 =>
      cases h1 with
      | cons a2 h1 =>
        cases h1 with
        | cons a3 h1 =>
          cases h1
          rename_i cs d1 d2 v0 v1 v2
          have ok2 : SOk c G' H' σ _ ((.ow .sh, v0, .list cs) :: (.sh, v1, d1) :: (.sh, v2, d2) :: R) := ok'
          obtain ⟨a, ws, es, rfl, hd, h3, h4⟩ := Rel.ow_of ok2.rel
          cases hd
          have s1 : Dq c.K G' v1 d1 := sh_dq (ok2.rel.view (m := .sh) (List.mem_append_left _ (List.mem_cons_of_mem _ List.mem_cons_self)))
          have s2 : Dq c.K G' v2 d2 := sh_dq (ok2.rel.view (m := .sh) (List.mem_append_left _ (List.mem_cons_of_mem _ (List.mem_cons_of_mem _ List.mem_cons_self))))
          refine ⟨by show 3 ≤ sizeLine; decide, fun p hp => ?_⟩
          have r2 := Rel.new_bx (L := R ++ prs σ _) (ok2.rel.sublist (List.Sublist.cons_cons _ (List.Sublist.append_right ((List.sublist_cons_self _ _).trans (List.sublist_cons_self _ _)) _))) hp (.cons s1 (.cons s2 .nil))
          exact k G' _ _ s ⟨ok2.cov, r2⟩
  · cases e
def bxAt (S : SS) (i : Nat) : M (D × List D) := match S[i]? with
  | some (some (.bx, .list (e :: ds))) => .ok (e, ds)
  | _ => stk
theorem bxAt_ok {S : SS} {i : Nat} {e : D} {ds : List D} (h : bxAt S i = .ok (e, ds)) : S[i]? = some (some (.bx, .list (e :: ds))) := by
  unfold bxAt at h
  split at h
  · rename_i z; cases h; exact z
  · cases h
def gIxB (i : Nat) (k : Nat) : FG := fun r S => do
  let z ← giveR r
  let (e, ds) ← bxAt S i
  if k < ds.length then pure (S.set i (some (.bx, .list (e :: ds.set k z.2)))) else stk
theorem dg_ixB {i : Nat} {x : Str} {k : Nat} {j : Nat} {p pos pos2 : Pos} (hN : X.N[i]? = some x := by rfl) (hv : Vis X.env.scope x := by first | exact Or.inl rfl | exact Or.inr (Or.inl rfl) | exact Or.inr (Or.inr rfl)) (hd : (x == ("__debug__" : Str)) = false := by decide) (hcd : (x == ("__classdict__" : Str)) = false := by decide)
    (ha : ∀ v, assign (.Subscript (.Name x p) (.Constant (.int ((k + 1 : Nat) : Int)) j pos2) pos) X.env v = (do
      let ov ← holding [v] (eval (.Name x p) X.env)
      let iv ← holding [v, ov] (eval (.Constant (.int ((k + 1 : Nat) : Int)) j pos2) X.env)
      standAt pos
      holding [v, ov, iv] (setItem ov iv v)
      release [v, ov, iv] []) := by intro _; rfl) : PG X (.Subscript (.Name x p) (.Constant (.int ((k + 1 : Nat) : Int)) j pos2) pos) (tGd c P (gIxB i k)) := pgmono (pg_sub (do_pk (c := c) (i := i) hN hv hd hcd) (pe_int (i := ((k + 1 : Nat) : Int))) set_list ha) fun v σ H Q h => by
  obtain ⟨G, S, R, r, ok, S', e, kk⟩ := h
  obtain ⟨z, e0, e⟩ := bind_ok e
  obtain ⟨⟨e1, ds⟩, e2, e⟩ := bind_ok e
  dsimp only at e
  split at e
  · rename_i hk
    cases e
    obtain ⟨hz, G0, s0, rl0⟩ := Rel.give ok.rel e0
    have ok0 : SOk c G0 H σ S ((.sh, v, r.2) :: R) := ⟨ok.cov, rl0⟩
    have z1 := bxAt_ok e2
    refine ⟨G0, S, _, ok0, .slot i, S, by unfold oP; rw [z1], fun G1 o H1 s1 h1 ok1 => ?_⟩
    obtain ⟨ow, hw, rl⟩ := ok1.slot z1
    have h1 : σ[i]? = some (some o) := h1
    rw [hw] at h1; cases h1
    obtain ⟨a, b, vs, ws, ds', es, rfl, hd, h3, h4, h5, h6, hab⟩ := rl.bx_of
    cases hd
    have hsh : Dq c.K G1 v z.2 := by
      have := ok1.rel.view (m := .sh) (v := v) (d := r.2) (by simp [tkR])
      rw [hz]
      exact sh_dq this
    have hl := h5.length
    refine ⟨a, .ref b :: vs, ((k + 1 : Nat) : Int), k + 1, rfl, rfl, h3, by
      unfold ixN
      rw [if_pos (by omega), if_pos (by rw [List.length_cons]; omega)]
      rfl, ?_⟩
    have rl2 := rl.bx_write (H' := upd H1 a (.lst (.ref b :: vs.set k v))) h3 (fun x hx _ => upd_ne hx) upd_same (by rw [upd_ne (Ne.symm hab)]; exact h4) (h5.set hsh k) h6
    refine kk G1 σ _ (s0.trans s1) (Prot.refl σ) (SOk.put ok1.cov hw (lt_of_get z1) (rl2.sublist (List.Sublist.cons_cons _ (List.Sublist.append_right ?_ _))))
    exact (List.sublist_cons_self _ _).trans (List.sublist_append_right _ _)
  · cases e
end
end O
set_option maxRecDepth 100000
set_option maxHeartbeats 3200000
/-! set(xs) of a list of whole numbers, as a set that can be sorted -/
namespace O
open PySem PySem.Spec PyProof.Rows L2
section
variable {P : Program} {w : World} {A : Around} {E : Value → Shared → Prop} {s : Shared}
abbrev eSet (w : World) : Obj := { cls := .type "set", dict := none, data := .set #[] 0 (.fresh 0 0 (!w.params.followText "set-order")) }
theorem setR_fresh' {h : Heap} {a : Addr} (w : World) (hg : h.get? a = some (eSet w)) : SetR w h a (fun _ => false) 0 :=
  ⟨_, #[], 0, _, hg, ⟨rfl, rfl, rfl⟩, rfl, (fun e he => by simp at he), (by simp), (fun k => by simp), (by decide), (by rfl), rfl, List.Pairwise.nil, by
    show _ ∨ (!w.params.followText "set-order") = true
    cases w.params.followText "set-order"
    · exact .inr rfl
    · exact .inl rfl⟩
/-- a set of the first i numbers -/
def SetUpto (w : World) (h : Heap) (a : Addr) (ns : List Int) (i : Nat) : Prop := ∃ n, n ≤ i ∧ SetR w h a (fun k => decide (k ∈ ns.take i)) n
theorem addLoop {I : Addr} {fp wr : List Addr} {G : Array GenState → Array GenState → Prop} {n : Nat} {Pv : Nat → Value → Prop} {St : Nat → Shared → Prop} {R : Result → Shared → Prop}
    (W : WalksS P w A.in1 I fp wr G n Pv St) (S : Addr) (hSf : S ∉ fp) (ns : List Int) (hval : ∀ i v, Pv i v → ∃ k t, ns[i]? = some k ∧ v = .int k t) (hb : n + 1 < scanBound) :
    ∀ (k i : Nat) (s : Shared), n - i = k → i ≤ n → St i s → SetUpto w s.heap S ns i →
      (∀ s', Moved (S :: wr) G s s' → SetUpto w s'.heap S ns n → R (.ok (.ret .none)) s') →
      codeAny (model P w) A (.builtin "set.update.loop" ⟨[.ref S, .ref I], []⟩) R s := by
  have hSw : S ∉ wr := fun h => hSf (W.sub _ h)
  have up : ∀ b ∈ wr, b ∈ S :: wr := fun b hb => List.mem_cons_of_mem _ hb
  intro k
  induction k with
  | zero =>
    intro i s hk hi hst hS hR
    obtain rfl : i = n := by omega
    refine codeAny_builtin F.entry_set_update_loop ?_
    rw [Around.under_plainId F.plain_set_update_loop _]
    show wpAny _ A.in1 (pyNext (.ref I) >>= _) _ _ s
    refine wpAny_bind (W.done s _ _ hst fun s' hm => ?_)
    show wpAny _ A.in1 (ret Value.none) _ _ s'
    obtain ⟨m, hm1, r⟩ := hS
    exact wpAny_pure (hR s' (hm.mono up) ⟨m, hm1, r.at fun o e => hm.heap S o hSw e⟩)
  | succ k ih =>
    intro i s hk hi hst hS hR
    have hlt : i < n := by omega
    refine codeAny_builtin F.entry_set_update_loop ?_
    rw [Around.under_plainId F.plain_set_update_loop _]
    show wpAny _ A.in1 (pyNext (.ref I) >>= _) _ _ s
    refine wpAny_bind (W.item i s _ _ hlt hst fun v s' hP hst' hm => ?_)
    obtain ⟨x, t, hx, rfl⟩ := hval i v hP
    obtain ⟨m, hm1, r⟩ := hS
    have r' : SetR w s'.heap S (fun k => decide (k ∈ ns.take i)) m := r.at fun o e => hm.heap S o hSw e
    show wpAny _ A.in1 (holding [Value.int x t] (setAdd S (.int x t)) >>= _) _ _ s'
    refine wpAny_bind (wpAny_holding ?_)
    unfold setAdd
    refine wpAny_holding ?_
    refine wpAny_bind ((intKind P w).pyHash (k := x) (intKind_is _ _ _ _) ?_)
    refine setR_add_hashed (s := { s' with toks := s'.toks + 1 }) r' (by omega) fun h' hsb r2 => ?_
    have e2 : ∀ j, decide (j ∈ ns.take (i + 1)) = (decide (j ∈ ns.take i) || decide (j = x)) := fun j => by
      rw [take_next hx]
      simp
    have r3 : SetUpto w h' S ns (i + 1) := ⟨_, by split <;> omega, r2.congr e2⟩
    refine wpAny_pure ⟨plainId_quiet F.plain_set_update_loop _, ih (i + 1) _ (by omega) hlt (W.frame _ s' _ _ hst' (Nat.le_succ _) fun b hb o e => ?_) r3 fun s'' hm'' hS'' => ?_⟩
    · rw [hsb.2 b (fun h : b = S => hSf (by rw [← h]; exact hb))]; exact e
    · refine hR s'' (Moved.trans W.gtrans ((hm.mono up).then_heap (Nat.le_succ _) fun b o hb e => ?_) hm'') hS''
      rw [hsb.2 b (fun h : b = S => hb (by rw [h]; exact List.mem_cons_self))]; exact e

set_option maxRecDepth 100000 in
set_option maxHeartbeats 6400000 in
theorem set_of_ints {l : Addr} {items : Array Value} {ns : List Int} {Q : Value → Shared → Prop} (hh : A.handled = none) (hl : s.heap.IsList l items) (hi : IntsAre items.toList ns) (hb : items.size + 1 < scanBound)
    (h : ∀ (h' : Heap) (tk : Nat) (n : Nat), n ≤ items.size → SetR w h' s.heap.objs.size (fun k => decide (k ∈ ns)) n → (∀ b o, s.heap.get? b = some o → h'.get? b = some o) → Q (.ref s.heap.objs.size) { s with heap := h', toks := tk }) :
    wpAny (model P w) A (call (.type "set") [.ref l]) Q E s := by
  have hlen : items.size = ns.length := by rw [← Array.length_toList]; exact hi.length
  obtain ⟨c, tl, hmro⟩ := F.called_set.mro
  have hmade := F.called_set.made
  have hsub := F.called_set.sub
  refine wpAny_call (codeAny_of_tree ?_)
  show wpAny _ _ (callAny (.type "set") _) _ _ _
  refine wpAny_pure ⟨Code.quiet_builtin _ (by decide +kernel), codeAny_builtin F.entry_type_call ?_⟩
  rw [Around.under_plain (weight_type_call_type "set" [.ref l] []) rfl]
  have h1 := F.called_set.notType
  have h2 := F.called_set.canCreate
  have hct := F.typeCall_set_1 (.ref l)
  repeat (any_goals (first | assumption | wp_step))
  refine codeAny_mono (code_set_led1 (.ref l) (E := E) (Q₁ := fun obj s₁ => obj = .ref s.heap.objs.size ∧ s₁ = { s with heap := s.heap.push (eSet w) }) ⟨rfl, rfl⟩) fun r s₁ hr => ?_
  cases r with
  | error e => exact hr
  | ok fl =>
    cases fl with
    | ret obj =>
      obtain ⟨rfl, rfl⟩ := hr
      have hS : (s.heap.push (eSet w)).get? s.heap.objs.size = some (eSet w) := Heap.get?_push_size _ rfl
      have hT : Shared.TypeIs { s with heap := s.heap.push (eSet w) } (.ref s.heap.objs.size) "set" := ⟨_, hS, rfl⟩
      have hli := F.called_set.init.lookup
      have hbi := F.called_set.init.bind (.ref s.heap.objs.size)
      repeat (any_goals (first | assumption | wp_step))
      refine codeAny_mono (codeAny_call_builtin (R := wants (fun r s₂ => r = .none ∧ ∃ h' tk, s₂ = { s with heap := h', toks := tk } ∧ SetUpto w h' s.heap.objs.size ns items.size ∧ (∀ b o, s.heap.get? b = some o → h'.get? b = some o)) E) F.called_set.init.plain F.entry_set_init (check_set_init_1 hT ?_)) fun r₂ s₂ hr₂ => ?_
      · obtain ⟨ol, hol, hcl, nl, hdl⟩ := hl
        obtain ⟨ocls, odict, odata, oslots⟩ := ol
        simp only at hcl hdl
        subst hcl; subst hdl
        have hol' : (s.heap.push (eSet w)).get? l = some { cls := .type "list", dict := odict, data := .seq items nl, slots := oslots } := Heap.get?_push_of_some _ hol
        have hsls := F.sub_list_set
        have hslf := F.sub_list_frozenset
        have hne : (Value.type "list" == Value.type "dict") = false := by decide
        have hl1 : (s.heap.push (eSet w)).IsList l items := ⟨_, hol', rfl, nl, rfl⟩
        unfold Builtin.«set.__init__» noKeywords Builtin.Frozenset.updateFrom
        generalize hPI : pyIter = PI
        wp_walk
        subst hPI
        refine wpAny_pyIter_list hl1 ?_
        refine wpAny_bind (wpAny_runValue ?_)
        have hlS : l < s.heap.objs.size := Heap.lt_size hol
        have hh3 : A.in1.in1.in1.handled = none := by simp [hh]
        have hneI : l ≠ (s.heap.push (eSet w)).objs.size := by
          rw [Heap.size_push]; exact Nat.ne_of_lt (Nat.lt_succ_of_lt hlS)
        have hSf : s.heap.objs.size ∉ [(s.heap.push (eSet w)).objs.size, l] := by
          rw [Heap.size_push]; simp only [List.mem_cons, List.not_mem_nil, or_false, not_or]
          exact ⟨Nat.ne_of_lt (Nat.lt_succ_self _), Nat.ne_of_gt hlS⟩
        have hval : ∀ (i : Nat) (v : Value), items[i]? = some v → ∃ k t, ns[i]? = some k ∧ v = .int k t := fun i v hv => by
          have hlt : i < items.size := by
            obtain ⟨q, _⟩ := Array.getElem?_eq_some_iff.mp hv
            exact q
          obtain ⟨t, e⟩ := IntsAre.int_at hi i v (by rw [Array.getElem?_toList]; exact hv)
          have hn : i < ns.length := by omega
          exact ⟨ns[i], t, by simp [hn], by rw [e]; congr 1; simp [hn]⟩
        refine addLoop ((Walks.list hh3 _ l hneI items).toS) s.heap.objs.size hSf ns hval hb (items.size - 0) 0 _ (by omega) (Nat.zero_le _)
          ⟨⟨_, Heap.get?_push_size _ rfl, rfl, rfl⟩, (hl1.push _)⟩ ?hS0 ?hR
        case hS0 => exact ⟨0, Nat.le_refl _, (setR_fresh' w (Heap.get?_push_of_some _ hS)).congr fun k => by simp⟩
        case hR =>
          intro s' hm hS'
          obtain ⟨h', g', d', tk', os'⟩ := s'
          have eg : g' = s.gens := hm.gens
          have ed : d' = s.drawn := hm.drawn
          have eo : os' = s.os := hm.os
          subst eg; subst ed; subst eo
          show wpAny _ _ _ _ _ _
          refine wpAny_pure ?_
          show wpAny _ _ (ret Value.none) _ _ _
          refine wpAny_pure ⟨rfl, h', tk', rfl, hS', fun b o e => ?_⟩
          have hb := Heap.lt_size e
          have hb1 : b ≠ s.heap.objs.size := Nat.ne_of_lt hb
          have hb2 : b ≠ (s.heap.push (eSet w)).objs.size := by
            rw [Heap.size_push]; exact Nat.ne_of_lt (Nat.lt_succ_of_lt hb)
          exact hm.heap b o (by simp only [List.mem_cons, List.not_mem_nil, or_false, not_or]; exact ⟨hb1, hb2⟩) (Heap.get?_push_of_some _ (Heap.get?_push_of_some _ e))
      · cases r₂ with
        | error e => exact hr₂
        | ok fl₂ =>
          cases fl₂ with
          | ret r =>
            obtain ⟨rfl, h', tk, rfl, ⟨m, hm1, r⟩, hk'⟩ := hr₂
            repeat (any_goals (first | assumption | wp_step))
            refine h _ _ m hm1 (r.congr fun k => ?_) hk'
            rw [hlen, List.take_length]
          | _ => exact hr₂.elim
    | _ => exact hr.elim
end
end O
set_option maxRecDepth 100000
set_option maxHeartbeats 1000000
namespace O
open PySem PySem.Spec PyProof.Rows L2
/-! ### what a law draws -/
def tailD (n : Int) : Int × Int :=
  let first := (n * 48271 + 17) % 2147483629
  let second := (first * 69621 + 5) % 2147483587
  let n' := (second * 40692 + 3) % 2147483563
  (first * 4611686014132420609 + second * 2147483647 + n', n')
def sizeD (cell : Int) : Int := if 0 ≤ cell then 2 * cell else -2 * cell - 1
def loadD (es : List D) (n : Int) : M (Int × List D × Int) := match es with
  | [] => .ok ((tailD n).1, [], (tailD n).2)
  | .int cell :: es => if 1000000000000000000 ≤ sizeD cell then .ok (sizeD cell, es, n) else
    let n1 := (n * 69621 + sizeD cell * 48271 + 11) % 2147483647
    .ok ((tailD n1).1, es, (tailD n1).2)
  | _ => stk
def m_load : SemF := fun rs => match rs with
  | [(.bx, .list [.list es, .int n1, .int n2])] => do
    let (r, es', n') ← loadD es n2
    pure ((.sh, .int r), [(.bx, .list [.list es', .int n1, .int n'])])
  | _ => stk
section
variable {P : Program} {w : World} {K : PySem.W.Frag} {mg : Str → Option Value} {base : Heap} {c : Gh}
/-- a def by a reading of its own -/
theorem calRaw {x : Str} {st : Stmt} {f : Addr} {fd : FuncData} {cd : Addr} {N ps : List Str} {k n : Nat} {io : List Nat} {sem : SemF} (F : DefC K mg x st f fd cd) (b : Binds K fd ps []) (S : FnScope N ps (C8.fnScope st)) (hn : ps.length = n)
    (hb : ∀ (A : Around) (outer : List Env) (s : Shared) (H : Hp) (E : XK), Room k (A.deeper (envOfC x (C8.fnScope st) s.heap.objs.size f (.ref cd))) → ∃ t, PSs (cxOf C8.CX0 P w K mg base N x (C8.fnScope st) f (.ref cd) A outer s H E).nox (C8.fnBody st) t ∧
      ∀ (vs : List V) (Q : VK), spD c n io sem vs H Q E → t { nx := fun _ H' => Q .non H', rt := Q } (L2.start N vs) H) :
    C8.Cal P w K mg base (k + 1) x (spD c n io sem) [] := by
  obtain ⟨oc, od, dV, kV, doc, pm, an, ct, osl, rfl, lk, hcd⟩ := F.fn
  refine ⟨f, _, ps, [], fn_of lk hcd S (fun vs H Q E h => ?_) (fun A outer s H vs Q E hr h => ?_), F.mgf, F.kp, b, .nil⟩
  · obtain ⟨G, R, rs, _, _, hl, _⟩ := h
    rw [hl, hn]
  · obtain ⟨t, h1, h2⟩ := hb A outer s H E hr
    exact ⟨t, h1.nox, h2 vs Q h⟩
end
end O
set_option maxRecDepth 100000
set_option maxHeartbeats 2000000
namespace O
open PySem PySem.Spec PyProof.Rows L2
theorem bt_min : bootBuiltins "min" = some (.builtin "min") := by decide +kernel
theorem bt_max : bootBuiltins "max" = some (.builtin "max") := by decide +kernel
section
variable {X : Cx} {c : Gh} {P : List Nat} {pos : Pos}
/-! min, max of two; gcd -/
def semMin2 : SemN := fun rs => match rs with
  | [(_, .int i), (_, .int j)] => .ok (.sh, .int (if j < i then j else i))
  | _ => stk
def semMax2 : SemN := fun rs => match rs with
  | [(_, .int i), (_, .int j)] => .ok (.sh, .int (if j > i then j else i))
  | _ => stk
def semGcd : SemN := fun rs => match rs with
  | [(_, .int i), (_, .int j)] => .ok (.sh, .int (Nat.gcd i.natAbs j.natAbs : Nat))
  | _ => stk
theorem c_min2 (hc : X.calm = true) : CallR X (.builtin "min") (rND c semMin2) := by
  intro pins s σ H xs us Q I rv h
  obtain ⟨G, L, rs, r, rl, hv, e, k⟩ := h
  unfold semMin2 at e
  split at e
  · obtain ⟨v, w, rfl, ha, hb⟩ := views2 hv
    cases e
    exact call_min2 hc pins s σ H _ us Q I rv ⟨_, _, by rw [int_of rl ha, int_of rl hb], r2_end rl k rfl (.int _)⟩
  · cases e
theorem c_max2 (hc : X.calm = true) : CallR X (.builtin "max") (rND c semMax2) := by
  intro pins s σ H xs us Q I rv h
  obtain ⟨G, L, rs, r, rl, hv, e, k⟩ := h
  unfold semMax2 at e
  split at e
  · obtain ⟨v, w, rfl, ha, hb⟩ := views2 hv
    cases e
    exact call_max2 hc pins s σ H _ us Q I rv ⟨_, _, by rw [int_of rl ha, int_of rl hb], r2_end rl k rfl (.int _)⟩
  · cases e
theorem c_gcd : CallR X (.builtin "math.gcd") (rND c semGcd) := by
  intro pins s σ H xs us Q I rv h
  obtain ⟨G, L, rs, r, rl, hv, e, k⟩ := h
  unfold semGcd at e
  split at e
  · obtain ⟨v, w, rfl, ha, hb⟩ := views2 hv
    cases e
    exact cr_gcd pins s σ H _ us Q I rv ⟨_, _, by rw [int_of rl ha, int_of rl hb], r2_end rl k rfl (.int _)⟩
  · cases e
/-- a call of a built-in function that the module brought in by name -/
theorem de_callM {id : String} {sem : SemN} {x : Str} {e : Expr} {es : List Expr} {f : FA} {p pos : Pos} (hc : CallR X (.builtin id) (rND c sem)) (hg : Gl X x) (hm : X.mg x = some (.builtin id)) (ha : PA X (e :: es) (tA c f)) (hdb : (x == ("__debug__" : Str)) = false := by decide)
    (he : starEach (e :: es) X.env = (false, eval e X.env) :: starEach es X.env := by rfl) (hpl : (backTo pos (starEach es X.env)).any (·.1) = false := by rfl) : PE X (.Call (.Name x p) (e :: es) [] pos) (tE c (fN sem f)) :=
  pemono (pe_callBfun hc hg hm ha hdb he hpl) fun _ _ _ h => n_read h
/-! sorted(set(xs)) -/
def tSortSet (K : PySem.W.Frag) (ta : TE) : TE := fun σ H Q => ta σ H fun x H1 => ∃ (l : Addr) (ns : List Int), x = .ref l ∧ SqL K H1 l (ns.map V.int) ∧ ns.length < 64 ∧
  ∀ (out : List Int) (p : Addr), out.Pairwise (· < ·) → (∀ k, k ∈ out ↔ k ∈ ns) → H1 p = none → Q (.ref p) (upd H1 p (.lst (out.map V.int)))
theorem pe_sortSet {a : Expr} {ta : TE} {p p2 q pos : Pos} (hc : X.calm = true) (hg : Gl X "sorted") (hm : X.mg "sorted" = none) (hg2 : Gl X "set") (hm2 : X.mg "set" = none) (ha : PE X a ta)
    (na : starEach [a] X.env = (false, eval a X.env) :: starEach [] X.env := by rfl) : PE X (.Call (.Name "sorted" p) [.Call (.Name "set" p2) [a] [] q] [] pos) (tSortSet X.K ta) := by
  refine ⟨fun pins s σ H Q I h => ?_⟩
  refine Call_ (ld_blt I hg hm boot_sorted ?_)
  refine PyProof.Rows.callWith_builtin1 (PyProof.Rows.args_cons ?_ rfl) rfl rfl
  refine Call_ (ld_blt I hg2 hm2 PyProof.Rows.boot_set ?_)
  refine PyProof.Rows.callWith_type1 (PyProof.Rows.args_cons (thn (ha.run pins s σ H _ I h) fun v s1 ⟨x, H1, I1, r1, q1⟩ => PyProof.Rows.args_nil ?_) na) na rfl
  obtain ⟨l, ns, rfl, hq, hl, q1⟩ := q1
  cases r1
  obtain ⟨its, r, pl, hz⟩ := I1.list hq
  have hlen : its.toArray.size = ns.length := by rw [List.size_toArray, ← r.length, List.length_map]
  refine set_of_ints (I1.ok.hd hc) pl.isList (ns := ns) (by simpa using intsAre_of r) (by rw [hlen]; unfold scanBound; omega) fun h' tk n hn hS hk => ?_
  refine PyProof.Rows.args_nil ?_
  have I2 : Inv X pins σ H1 { s1 with heap := h', toks := tk } := I1.kept hk
  have hS2 : SetR X.w ({ s1 with heap := h', toks := tk } : Shared).heap s1.heap.objs.size (fun k => decide (k ∈ ns)) n := hS
  have hd2 := I1.ok.hd hc
  generalize ({ s1 with heap := h', toks := tk } : Shared) = s2 at I2 hS2 ⊢
  refine sorted_set (s := s2) hS2 hd2 (by omega) fun s' p out cc ns' k g o hp hg' hi hs hm' hl' => ?_
  have hlen2 : (ns'.map V.int).length ≤ sizeLine := by rw [List.length_map, hl', sizeLine_eq]; omega
  have hnp : H1 p = none := I2.hok.fresh hp
  have J : Inv X pins σ (upd H1 p (.lst (ns'.map V.int))) { s2 with heap := s'.heap, gens := s'.gens, drawn := s'.drawn, toks := s'.toks } :=
    I2.call (ch := []) (Un.laid k hp hnp) (I2.hok.laid k hp ⟨hlen2, out.toList, cc, vals_of_ints hi, hg'⟩) (by rw [g]; exact I2.bare) (fun _ z => nomatch z)
  have e : s' = { s2 with heap := s'.heap, gens := s'.gens, drawn := s'.drawn, toks := s'.toks } := by
    cases s'
    cases s2
    cases o
    rfl
  rw [e]
  exact ⟨.ref p, _, J, rfl, q1 ns' p hs (fun k => by rw [hm' k]; simp) hnp⟩
/-- in order, each once -/
def insD (i : Int) : List Int → List Int
  | [] => [i]
  | j :: js => if i < j then i :: j :: js else if i = j then j :: js else j :: insD i js
def sortD (ns : List Int) : List Int := ns.foldr insD []
theorem insD_mem {i k : Int} : ∀ {l : List Int}, k ∈ insD i l ↔ k = i ∨ k ∈ l
  | [] => by simp [insD]
  | j :: js => by
    unfold insD
    split
    · simp
    · split
      · rename_i h; subst h; simp
      · rw [List.mem_cons, insD_mem, List.mem_cons]
        exact ⟨fun h => by rcases h with h | h | h <;> simp [h], fun h => by rcases h with h | h | h <;> simp [h]⟩
theorem insD_lt {i : Int} : ∀ {l : List Int}, l.Pairwise (· < ·) → (insD i l).Pairwise (· < ·)
  | [], _ => by simp [insD]
  | j :: js, h => by
    obtain ⟨h1, h2⟩ := List.pairwise_cons.mp h
    unfold insD
    split
    · rename_i hij
      refine List.pairwise_cons.mpr ⟨fun y hy => ?_, h⟩
      rcases List.mem_cons.mp hy with rfl | hy
      · exact hij
      · have := h1 y hy; omega
    · split
      · exact h
      · rename_i h3 h4
        refine List.pairwise_cons.mpr ⟨fun y hy => ?_, insD_lt h2⟩
        rcases insD_mem.mp hy with rfl | hy
        · omega
        · exact h1 y hy
theorem sortD_lt (ns : List Int) : (sortD ns).Pairwise (· < ·) := by
  induction ns with
  | nil => exact .nil
  | cons n ns ih => exact insD_lt ih
theorem sortD_mem {ns : List Int} {k : Int} : k ∈ sortD ns ↔ k ∈ ns := by
  induction ns with
  | nil => simp [sortD]
  | cons n ns ih =>
    show k ∈ insD n (sortD ns) ↔ _
    rw [insD_mem, ih, List.mem_cons]
theorem lt_unique : ∀ {xs ys : List Int}, xs.Pairwise (· < ·) → ys.Pairwise (· < ·) → (∀ k, k ∈ xs ↔ k ∈ ys) → xs = ys
  | [], [], _, _, _ => rfl
  | [], y :: ys, _, _, h => absurd ((h y).2 List.mem_cons_self) (by simp)
  | x :: xs, [], _, _, h => absurd ((h x).1 List.mem_cons_self) (by simp)
  | x :: xs, y :: ys, a, b, h => by
    obtain ⟨a1, a2⟩ := List.pairwise_cons.mp a
    obtain ⟨b1, b2⟩ := List.pairwise_cons.mp b
    have e : x = y := by
      rcases List.mem_cons.mp ((h x).1 List.mem_cons_self) with e | hx
      · exact e
      · rcases List.mem_cons.mp ((h y).2 List.mem_cons_self) with e | hy
        · exact e.symm
        · have := a1 y hy; have := b1 x hx; omega
    subst e
    rw [lt_unique a2 b2 fun k => ⟨fun hk => ?_, fun hk => ?_⟩]
    · rcases List.mem_cons.mp ((h k).1 (List.mem_cons_of_mem _ hk)) with e | z
      · have := a1 k hk; omega
      · exact z
    · rcases List.mem_cons.mp ((h k).2 (List.mem_cons_of_mem _ hk)) with e | z
      · have := b1 k hk; omega
      · exact z
def fSortSet (f : FE) : FE := fun S => do
  let (r, S1) ← f S
  let ds ← kidsL r
  let ns ← intsOf ds
  if ns.length < 64 then pure ((.ow .sh, .list ((sortD ns).map .int)), S1) else stk
theorem dq_ints {K : PySem.W.Frag} {G : Hp} : ∀ ns : List Int, DqAll K G (ns.map V.int) (ns.map PyData.int)
  | [] => .nil
  | n :: ns => .cons (.int n) (dq_ints ns)
theorem de_sortSet (hK : c.K = X.K) {a : Expr} {f : FE} {p p2 q pos : Pos} (hc : X.calm = true) (hg : Gl X "sorted") (hm : X.mg "sorted" = none) (hg2 : Gl X "set") (hm2 : X.mg "set" = none) (ha : PE X a (tE c f))
    (na : starEach [a] X.env = (false, eval a X.env) :: starEach [] X.env := by rfl) : PE X (.Call (.Name "sorted" p) [.Call (.Name "set" p2) [a] [] q] [] pos) (tE c (fSortSet f)) := by
  refine pemono (pe_sortSet hc hg hm hg2 hm2 ha na) fun σ H Q h => ?_
  obtain ⟨G, S, R, ok, r, S', e, k⟩ := h
  obtain ⟨⟨r1, S1⟩, e1, e⟩ := bind_ok e
  obtain ⟨ds, e2, e⟩ := bind_ok e
  obtain ⟨ns, e3, e⟩ := bind_ok e
  split at e
  · rename_i hl
    cases e
    refine ⟨G, S, R, ok, _, _, e1, fun G1 v H1 s1 ok1 => ?_⟩
    have hv : View c G1 H1 r1 v := ok1.rel.view (List.mem_append_left _ List.mem_cons_self)
    obtain ⟨l, vs, rfl, h1, h2⟩ := kidsL_ok ok1.rel hv e2
    rw [ints_vals h2 e3] at h1
    refine ⟨l, ns, rfl, .inl (.inl h1), hl, fun out p ho hm hp => ?_⟩
    have eo : out = sortD ns := lt_unique ho (sortD_lt ns) fun k => by rw [hm k, sortD_mem]
    rw [eo]
    refine k G1 _ _ s1 ⟨ok1.cov, ?_⟩
    exact (ok1.rel.drop).new_lst hp (dq_ints _)
  · cases e
/-! a, b = x, y and a, b, c = x, y, z: plain local names -/
theorem ds_par2 {i j : Nat} {x y : Str} {a b : Expr} {f : FA} {px py pt : Pos} {kt k2 pt2} (hN : X.N.Nodup) (ha : PA X [a, b] (tA c f)) (hc : X.calm = true := by rfl) (hi : X.N[i]? = some x := by rfl) (hj : X.N[j]? = some y := by rfl) (hij : i ≠ j := by decide)
    (hx : X.env.scope.names.lookup x = some .local := by rfl) (hy : X.env.scope.names.lookup y = some .local := by rfl)
    (hw : swappedStores [.Tuple [.Name x px, .Name y py] kt pt] (.Tuple [a, b] k2 pt2) X.env = pure (some [x, y]) := by rfl)
    (hs : swapsWithSole [.Tuple [.Name x px, .Name y py] kt pt] (.Tuple [a, b] k2 pt2) pos.line X.env = pure false := by rfl) (hP : P.all (fun z => z != i) = true := by rfl) (hP2 : P.all (fun z => z != j) = true := by rfl) :
    PS X (.Assign [.Tuple [.Name x px, .Name y py] kt pt] (.Tuple [a, b] k2 pt2) pos) (tS c P (sPar i j f)) :=
  ds_par hN ha (ps_par hc hN hi hj hij hx hy ha hw hs) hij hP hP2
def sPar3 (i j l : Nat) (f : FA) : FS := fun S => do
  let (ts, S1) ← f S
  match ts with
  | [.val r, .val q, .val t] => pure (.nx, ((S1.set i (some r)).set j (some q)).set l (some t))
  | _ => stk
theorem ds_par3 {i j l : Nat} {x y z : Str} {a b d : Expr} {f : FA} {px py pz pt : Pos} {kt k2 pt2} (hN : X.N.Nodup) (ha : PA X [a, b, d] (tA c f)) (hc : X.calm = true := by rfl) (hi : X.N[i]? = some x := by rfl) (hj : X.N[j]? = some y := by rfl) (hl : X.N[l]? = some z := by rfl) (hij : i ≠ j := by decide) (hil : i ≠ l := by decide) (hjl : j ≠ l := by decide)
    (hx : X.env.scope.names.lookup x = some .local := by rfl) (hy : X.env.scope.names.lookup y = some .local := by rfl) (hz : X.env.scope.names.lookup z = some .local := by rfl)
    (hw : swappedStores [.Tuple [.Name x px, .Name y py, .Name z pz] kt pt] (.Tuple [a, b, d] k2 pt2) X.env = pure (some [x, y, z]) := by rfl)
    (hs : swapsWithSole [.Tuple [.Name x px, .Name y py, .Name z pz] kt pt] (.Tuple [a, b, d] k2 pt2) pos.line X.env = pure false := by rfl) (hP : P.all (fun z => z != i) = true := by rfl) (hP2 : P.all (fun z => z != j) = true := by rfl) (hP3 : P.all (fun z => z != l) = true := by rfl) :
    PS X (.Assign [.Tuple [.Name x px, .Name y py, .Name z pz] kt pt] (.Tuple [a, b, d] k2 pt2) pos) (tS c P (sPar3 i j l f)) := psmono (L2.ps_par3 hc hN hi hj hl hij hil hjl hx hy hz ha hw hs) fun D σ H h => by
  obtain ⟨G, S, R, ok, fl, S', e, k⟩ := h
  obtain ⟨⟨ts, S1⟩, e1, e⟩ := bind_ok e
  dsimp only at e
  split at e
  · rename_i r q t
    cases e
    refine ⟨G, S, R, ok, _, _, e1, fun G1 vs H1 s1 h1 ok1 => ?_⟩
    cases h1 with
    | cons h1 h2 =>
      cases h2 with
      | cons h2 h3 =>
        cases h3 with
        | cons h3 h4 =>
        cases h4
        rename_i v w u
        refine ⟨v, w, u, rfl, k G1 _ H1 s1 (((Prot.set hP).trans (Prot.set hP2)).trans (Prot.set hP3)) ?_⟩
        have ok2 : SOk c G1 H1 σ S1 ((r.1, v, r.2) :: (q.1, w, q.2) :: (t.1, u, t.2) :: R) := ok1
        exact ((ok2.store i).store j).store l
  · cases e
end
section
variable {P : Program} {w : World} {K : PySem.W.Frag} {mg : Str → Option Value} {base : Heap} {c : Gh}
/-- a def that nobody calls -/
theorem calVoid {x : Str} {st : Stmt} {f : Addr} {fd : FuncData} {cd : Addr} {N ps : List Str} {k n : Nat} {io : List Nat} (F : DefC K mg x st f fd cd) (b : Binds K fd ps []) (S : FnScope N ps (C8.fnScope st)) (hn : ps.length = n) :
    C8.Cal P w K mg base (k + 1) x (spD c n io fun _ => stk) [] :=
  calRaw F b S hn fun A outer s H E hr => ⟨fun _ _ _ => False, ⟨fun _ _ _ _ _ _ h => h.elim⟩, fun vs Q h => by
    obtain ⟨G, R, rs, _, _, _, r, fs, e, _⟩ := h
    cases e⟩
end
end O
namespace O
open PySem PySem.Spec PyProof.Rows L2
section
variable {X : Cx} {c : Gh} {P : List Nat}
/-- a statement that is not come to -/
def sVoid : FS := fun _ => stk
theorem ds_void {st : Stmt} : PS X st (tS c P sVoid) := ⟨fun _ _ _ _ _ _ h => by
  obtain ⟨G, S, R, ok, fl, S', e, _⟩ := h
  cases e⟩
end
end O
set_option maxRecDepth 100000
set_option maxHeartbeats 2000000
/-! the end, with the tables of all defs of the view -/
namespace O
open PySem PySem.Spec PyProof.Rows L2
/-- every def of the view stands with an empty table -/
def TabsOf (q : Program) (K : PySem.W.Frag) (mg : Str → Option Value) (h : Heap) : Prop := ∀ (x : Str) (f : Addr), ((recsOf q).any fun e => e.name == x) = true → mg x = some (.ref f) → LamX.OwnTab K f h
theorem walk_ofTabs {l : PySem.W.OpenLaw} {n k : Nat} {q : Program} {loose : List Str} {XP : (Str → Option Value) → Heap → Prop} {YP : World → Heap → Prop} {d : DefRec} {K : Params → PySem.W.Frag} {CX : World → CXT} {x : Str}
    (hn : l.most = some n) (hn2 : n ≤ sizeLine) (hdf : d.params.defaults = []) (hr : Room k callerA) (hY : ∀ (w : World) (h : Heap), YP w h → (K w.params).In h)
    (F : ∀ (w : World) (mg : Str → Option Value) (fa : Addr) (h : Heap), YP w h → (K w.params).In h → h.Ns mainGlobals mg → mg d.name = some (.ref fa) → TabsOf q (K w.params) mg h → LamX.LawAtS l w (K w.params) (CX w) k n x mg fa h)
    (hCX : ∀ (w : World) (H : Hp) (s : Shared) (e : Value) (s' : Shared), CX w [] H s (fun _ _ _ => False) e s' → False) :
    PySem.W.WalkO q loose XP YP l.row.toRowW d [] (fun f vs => PySem.call f vs) := by
  refine Att.attach_callB hn hdf fun w s₀ s₁ mg mb fa o pm cd doc a vs ns G Y ho hd hcd hmg hobj hints hlen hbits hg => ?_
  have KX := hY w _ Y
  have own : TabsOf q (K w.params) mg s₁.heap := fun x f hx hf c P o1 fd1 e dd vs1 sl k1 k2 k3 k4 k5 => by
    obtain ⟨dL, hm, hn1⟩ := List.any_eq_true.mp hx
    have hn2 : dL.name = x := beq_iff_eq.mp hn1
    obtain ⟨a', o', fd', c', P', h1, h2, h3, h4, h5, h6⟩ := G.T.tab dL hm
    rw [hn2, hf] at h1
    cases h1
    have g1 := KX _ _ k1
    rw [g1] at h2
    cases h2
    rw [k2] at h3
    cases h3
    rw [k3] at h4
    cases h4
    obtain ⟨⟨oc, vc, e1, _, e3, e4⟩, hP⟩ := h6
    have g2 := KX _ _ k4
    rw [g2] at e1
    cases e1
    cases e3
    rw [k5] at e4
    cases e4
    exact hP
  obtain ⟨fd, cs, sp, hT, nT, C, hb, hsp, hF⟩ := F w mg fa _ Y KX G.T.g hmg own
  exact LamX.law_callTs KX G.T.g G.T.b G.T.builtins G.T.nolimit hg hT nT C G.T.bmain hobj hints (Nat.le_trans hlen hn2) hr hF hb (fun H hH hS => hsp H a ns hlen hbits hH hS) fun H e s' => hCX w H s₁ e s'
/-- a code object of the written part with a table at P -/
def codeV (vs : Array Value) (c P : Addr) : Bool := match (vs[11]? : Option Value), (vs.getD 11 Value.none : Value), (vs.getD 18 Value.none : Value), (vs.getD 7 Value.none : Value), (vs.getD 9 Value.none : Value), (vs.getD 10 Value.none : Value) with
    | some (.ref p), .ref p', .str _ _, .int _ _, .bool _, .int _ _ => p == P && p' == P && c != P
    | _, _, _, _, _, _ => false
def codeB (K : PySem.W.Frag) (c P : Addr) : Bool := match K.lookup c with
  | some ⟨.type "code", _, .fields vs, _⟩ => codeV vs c P
  | _ => false
theorem codeB_hd {K : PySem.W.Frag} {c P : Addr} {h : Heap} (X : K.In h) (b : codeB K c P = true) : PySem.W.CodeHd h c P ∧ ∃ e dd vs sl, K.lookup c = some ⟨e, dd, .fields vs, sl⟩ ∧ vs[11]? = some (.ref P) := by
  unfold codeB at b
  split at b
  · rename_i dd vs sl hl
    unfold codeV at b
    split at b
    · rename_i h1 h2 h3 h4 h5 h6
      simp only [Bool.and_eq_true, beq_iff_eq, bne_iff_ne] at b
      obtain ⟨⟨rfl, rfl⟩, hne⟩ := b
      exact ⟨⟨_, vs, _, _, _, _, _, _, _, X _ _ hl, rfl, rfl, h1, h2, h3, h4, h5, h6, hne⟩, _, _, _, _, hl, h1⟩
    · cases b
  · cases b
/-- a def of the view with its code object and the table -/
theorem tab_of {q : Program} {K : PySem.W.Frag} {mg : Str → Option Value} {h : Heap} (X : K.In h) (T : TabsOf q K mg h) {x : Str} {f c P : Addr} {o : Obj} {fd : FuncData} (hx : ((recsOf q).any fun e => e.name == x) = true) (hf : mg x = some (.ref f)) (l : K.lookup f = some o) (hd : o.data = .func fd) (hc : fd.code = .ref c) (b : codeB K c P = true) :
    h.get? P = some { cls := .none, data := .fields #[] } ∧ PySem.W.CodeHd h c P := by
  obtain ⟨C, e, dd, vs, sl, h1, h2⟩ := codeB_hd X b
  exact ⟨T x f hx hf c P o fd e dd vs sl l hd hc h1 h2, C⟩
end O
set_option maxRecDepth 100000
set_option maxHeartbeats 4000000
namespace O
open PySem PySem.Spec PyProof.Rows L2
/-! the reading of `_law_load` -/
abbrev rInt1 : List V → Hp → VK → Prop := fun xs H Q => (∃ i, xs = [V.int i] ∧ Q (V.int i) H) ∨ ∃ k, xs = [V.bl k] ∧ Q (V.int (if k = true then 1 else 0)) H
abbrev tInt1 (t : TE) : TE := tCB rInt1 (tCons t tNil)
abbrev tMul : TE → TE → TE := tOp (rI CMul fun i j => V.int (i * j))
abbrev tAdd : TE → TE → TE := tOp (rI0 fun i j => V.int (i + j))
abbrev tMod : TE → TE → TE := tOp (rI (fun x j => 0 < j) fun i j => V.int (i % j))
abbrev tI (i : Int) : TE := tC (.int i)
theorem modR {j : Int} (h : 0 < j := by decide) : 0 < j := h
def tTail (K : PySem.W.Frag) : TS :=
  tSeq (tAsg (tMod (tInt1 (tAdd (tMul (tOp (rIxL K) (tVar 0) (tI 2)) (tI 48271)) (tI 17))) (tI 2147483629)) (gName 4))
  (tSeq (tAsg (tMod (tInt1 (tAdd (tMul (tVar 4) (tI 69621)) (tI 5))) (tI 2147483587)) (gName 5))
  (tSeq (tAsg (tMod (tInt1 (tAdd (tMul (tVar 5) (tI 40692)) (tI 3))) (tI 2147483563)) (gSub (tVar 0) (tI 2) rSetL))
  (tRet (tAdd (tAdd (tMul (tVar 4) (tI 4611686014132420609)) (tMul (tVar 5) (tI 2147483647))) (tOp (rIxL K) (tVar 0) (tI 2))))))
theorem mulR {i j : Int} (h : -2 ^ 64 < j ∧ j < 2 ^ 64 := by decide) : CMul i j := .inr h
theorem tail_ok {K : PySem.W.Frag} {a b : Addr} {n1 n : Int} {x2 x3 x4 x5 : Option V} {H : Hp} {D : Ends} {sb : V} (h : H a = some (.lst [sb, .int n1, .int n]))
    (k : D.rt (.int (tailD n).1) (upd H a (.lst [sb, .int n1, .int (tailD n).2]))) : tTail K D [some (.ref a), some (.ref b), x2, x3, x4, x5] H := by
  refine ⟨.ref a, rfl, a, _, 2, .int n, rfl, rfl, .inl (.inl h), rfl, _, _, rfl, rfl, mulR, _, _, rfl, rfl, .inl ⟨_, rfl, _, _, rfl, rfl, modR, ?_⟩⟩
  refine ⟨_, rfl, _, _, rfl, rfl, mulR, _, _, rfl, rfl, .inl ⟨_, rfl, _, _, rfl, rfl, modR, ?_⟩⟩
  refine ⟨_, rfl, _, _, rfl, rfl, mulR, _, _, rfl, rfl, .inl ⟨_, rfl, _, _, rfl, rfl, modR, ?_⟩⟩
  refine ⟨.ref a, rfl, a, _, 2, 2, rfl, rfl, h, rfl, ?_⟩
  refine ⟨_, rfl, _, _, rfl, rfl, mulR, _, rfl, _, _, rfl, rfl, mulR, _, _, rfl, rfl, .ref a, rfl, a, _, 2, _, rfl, rfl, .inl (.inl upd_same), rfl, _, _, rfl, rfl, ?_⟩
  exact k
def tLoad (K : PySem.W.Frag) : TS :=
  tSeq (tAsg (tOp (rIxL K) (tVar 0) (tI 0)) (gName 1))
  (tSeq (tIfS (tTest (tOp (rI0 fun i j => V.bl (decide (j < i))) (tCB (fun xs H Q => ∃ p ys, xs = [V.ref p] ∧ (SqL K H p ys ∨ SqT K H p ys) ∧ Q (V.int ↑ys.length) H) (tCons (tVar 1) tNil)) (tI 0)))
    (tSeq (tAsg (tInt1 (tBM K "list" rPopAt (tVar 1) (tCons (tI 0) tNil))) (gName 2))
    (tSeq (tAsg (tIf (tTest (tOp (rI0 fun i j => V.bl (decide (j ≤ i))) (tVar 2) (tI 0))) (tMul (tI 2) (tVar 2)) (tOp (rI0 fun i j => V.int (i - j)) (tMul (tUn (rU fun i => V.int (-i)) (tI 2)) (tVar 2)) (tI 1))) (gName 3))
    (tSeq (tIfS (tTest (tOp (rI0 fun i j => V.bl (decide (j ≤ i))) (tVar 3) (tI 1000000000000000000))) (tRet (tVar 3)) tNext)
    (tAsg (tMod (tInt1 (tAdd (tAdd (tMul (tOp (rIxL K) (tVar 0) (tI 2)) (tI 69621)) (tMul (tVar 3) (tI 48271))) (tI 11))) (tI 2147483647)) (gSub (tVar 0) (tI 2) rSetL)))))
    tNext)
  (tTail K))
theorem load_ok {K : PySem.W.Frag} {c : Gh} {vs : List V} {H : Hp} {Q : VK} {E : XK} {D : Ends} (hK : c.K = K) (hD : D.rt = Q) (h : spD c 1 [0] m_load vs H Q E) : tLoad K D (L2.start ["box", "cells", "cell", "size", "first", "second"] vs) H := by
  subst hK hD
  obtain ⟨G, R, rs, rl, hl, hv, r, fs, e, k⟩ := h
  unfold m_load at e
  split at e
  · rename_i es n1 n2
    obtain ⟨⟨ro, es', n'⟩, e0, e⟩ := bind_ok e
    cases e
    match vs, hv with
    | [v], _ =>
      have rl : Rel c G H ((.bx, v, .list [.list es, .int n1, .int n2]) :: R) := rl
      obtain ⟨a, b, us, ws, ds, es0, rfl, hd, h3, h4, h5, h6, hab⟩ := rl.bx_of
      cases hd
      cases h5 with
      | cons q1 h5 =>
      cases h5 with
      | cons q2 h5 =>
      cases h5
      cases q1
      cases q2
      refine ⟨.ref a, rfl, a, _, 0, .ref b, rfl, rfl, .inl (.inl h3), rfl, ?_⟩
      refine ⟨.ref b, rfl, b, ws, rfl, .inl (.inl (.inl h4)), _, _, rfl, rfl, _, rfl, ?_⟩
      unfold loadD at e0
      split at e0
      · cases e0
        cases h6
        refine tail_ok h3 ?_
        refine k G _ _ (Sub.refl G) ?_
        show Rel c G _ ((.sh, _, _) :: (.bx, .ref a, _) :: R)
        refine Rel.put_sh ?_ (.int _)
        exact Rel.bx_write rl h3 (fun x hx _ => upd_ne hx) upd_same (by rw [upd_ne (Ne.symm hab)]; exact h4) (.cons (.int _) (.cons (.int _) .nil)) .nil
      · rename_i cell es1 rl0
        cases h6 with
        | cons q3 h6 =>
        rename_i w ws1
        cases q3
        have hlt : decide ((0 : Int) < ((V.int cell :: ws1).length : Int)) = true := by simp
        rw [if_pos hlt]
        have hp : (upd H b (.lst ws1)) a = some (.lst [.ref b, .int n1, .int n2]) := by rw [upd_ne hab]; exact h3
        refine ⟨.ref b, rfl, .inl ⟨rfl, _, .inl (.inl h4)⟩, b, V.int cell :: ws1, 0, 0, .int cell, rfl, rfl, h4, by decide, by decide, by unfold seqIndex?; simp, rfl, .inl ⟨_, rfl, ?_⟩⟩
        refine ⟨.int cell, rfl, _, _, rfl, rfl, _, rfl, ?_⟩
        have hs : ∀ (Z : VK), Z (.int (sizeD cell)) (upd H b (.lst ws1)) → (if decide ((0 : Int) ≤ cell) = true then tMul (tI 2) (tVar 2) [some (.ref a), some (.ref b), some (.int cell), none, none, none] (upd H b (.lst ws1)) Z else tOp (rI0 fun i j => V.int (i - j)) (tMul (tUn (rU fun i => V.int (-i)) (tI 2)) (tVar 2)) (tI 1) [some (.ref a), some (.ref b), some (.int cell), none, none, none] (upd H b (.lst ws1)) Z) := by
          intro Z hZ
          by_cases q : 0 ≤ cell
          · rw [if_pos (by simpa using q)]
            refine ⟨_, rfl, _, _, rfl, rfl, .inl (by decide), ?_⟩
            unfold sizeD at hZ
            rw [if_pos q] at hZ
            exact hZ
          · rw [if_neg (by simpa using q)]
            refine ⟨_, rfl, _, rfl, _, _, rfl, rfl, .inl (by decide), _, _, rfl, rfl, ?_⟩
            unfold sizeD at hZ
            rw [if_neg q] at hZ
            exact hZ
        refine hs _ ?_
        refine ⟨_, rfl, _, _, rfl, rfl, _, rfl, ?_⟩
        split at e0
        · rename_i hbig
          cases e0
          rw [if_pos (by simpa using hbig)]
          refine ⟨_, rfl, ?_⟩
          refine k G _ _ (Sub.refl G) ?_
          show Rel c G _ ((.sh, _, _) :: (.bx, .ref a, _) :: R)
          refine Rel.put_sh ?_ (.int _)
          exact Rel.bx_write rl h3 (fun x _ hx => upd_ne hx) hp upd_same (.cons (.int _) (.cons (.int _) .nil)) h6
        · rename_i hbig
          cases e0
          rw [if_neg (by simpa using hbig)]
          refine ⟨.ref a, rfl, a, _, 2, _, rfl, rfl, .inl (.inl hp), rfl, _, _, rfl, rfl, mulR, _, rfl, _, _, rfl, rfl, mulR, _, _, rfl, rfl, _, _, rfl, rfl, .inl ⟨_, rfl, _, _, rfl, rfl, modR, ?_⟩⟩
          refine ⟨.ref a, rfl, a, _, 2, 2, rfl, rfl, hp, rfl, ?_⟩
          refine tail_ok upd_same ?_
          refine k G _ _ (Sub.refl G) ?_
          show Rel c G _ ((.sh, _, _) :: (.bx, .ref a, _) :: R)
          refine Rel.put_sh ?_ (.int _)
          exact Rel.bx_write rl h3 (fun x hx1 hx2 => by rw [upd_ne hx1, upd_ne hx1, upd_ne hx2]) upd_same (by rw [upd_ne (Ne.symm hab), upd_ne (Ne.symm hab)]; exact upd_same) (.cons (.int _) (.cons (.int _) .nil)) h6
      · cases e0
  · cases e
end O
set_option maxRecDepth 100000
set_option maxHeartbeats 2000000
/-! a law's script, its box, its end -/
namespace O
open PySem PySem.Spec PyProof.Rows L2
def boxD (ns : List Int) : D := .list [.list (ns.map .int), .int 0, .int (4711 + ns.length)]
/-- what `_law_box` promises of the script at a -/
def spBox (c : Gh) : Sp := fun vs H Q _ => ∃ (a : Addr) (ns : List Int), vs = [.ref a] ∧ SqL c.K H a (ns.map V.int) ∧ ns.length ≤ 63 ∧ ∃ G, Rel c G H [] ∧ ∀ G' p H', Sub G G' → Rel c G' H' [(.bx, .ref p, boxD ns)] → Q (.ref p) H'
abbrev rLen (K : PySem.W.Frag) : List V → Hp → VK → Prop := fun xs H Q => ∃ p ys, xs = [V.ref p] ∧ (SqL K H p ys ∨ SqT K H p ys) ∧ Q (V.int ↑ys.length) H
abbrev rListOf (K : PySem.W.Frag) : List V → Hp → VK → Prop := fun xs H Q => ∃ p ys, xs = [V.ref p] ∧ (SqL K H p ys ∨ SqT K H p ys) ∧ ∀ l, H l = none → Q (.ref l) (upd H l (.lst ys))
def tBoxL (K : PySem.W.Frag) : TS := tRet (tLst (tCons (tCB (rListOf K) (tCons (tSl (rSlL K) (tVar 0) tNoPart (tPart (tC (.int 63)))) tNil)) (tCons (tC (.int 0)) (tCons (tOp (rI0 fun i j => V.int (i + j)) (tC (.int 4711)) (tCB (rLen K) (tCons (tVar 0) tNil))) tNil))))
theorem cut63 {vs : List V} (h : vs.length ≤ 63) : cutV vs none (some 63) = vs := by
  unfold cutV
  rw [show HT.sIx vs.length vs.length (some 63) = min 63 vs.length from HT.sIx_nat vs.length vs.length 63, HT.sIx_none, List.drop_zero, Nat.sub_zero, Nat.min_eq_right h, List.take_length]
theorem sq_upd {K : PySem.W.Frag} {H : Hp} {a p : Addr} {xs : List V} {o : HO} (h : SqL K H a xs) (hp : H p = none) : SqL K (upd H p o) a xs := SqL.sub (Sub.upd hp) h
theorem box_ok {c : Gh} {vs : List V} {H : Hp} {Q : VK} {E : XK} {D : Ends} (hD : D.rt = Q) (h : spBox c vs H Q E) : tBoxL c.K D (L2.start ["script"] vs) H := by
  subst hD
  obtain ⟨a, ns, rfl, hS, hl, G, rl, k⟩ := h
  have hc := cut63 (vs := ns.map V.int) (by rw [List.length_map]; exact hl)
  refine ⟨.ref a, rfl, _, rfl, a, _, rfl, hS, fun s hs => ⟨s, ns.map V.int, rfl, .inl (.inl (.inl (by rw [upd_same]; exact congrArg (fun z => some (HO.lst z)) hc))), fun b hb => ?_⟩⟩
  have r1 : Rel c G (upd H s (.lst (cutV (ns.map V.int) none (some 63)))) [] := rl.laid hs
  have r2 := r1.new_lst hb (vs := ns.map V.int) (ds := ns.map .int) (by
    clear hS hl k hc hs hb r1
    induction ns with
    | nil => exact .nil
    | cons n ns ih => exact .cons (.int n) ih)
  refine ⟨.ref a, rfl, a, ns.map V.int, rfl, .inl (sq_upd (sq_upd hS hs) hb), _, _, rfl, rfl, by show 3 ≤ sizeLine; decide, fun p hp => ?_⟩
  refine k G p _ (Sub.refl G) ?_
  have hds : DqAll c.K G [.int 0, .int (4711 + ((ns.map V.int).length : Int))] [.int 0, .int (4711 + ns.length)] := by
    rw [List.length_map]
    exact .cons (.int 0) (.cons (.int _) .nil)
  exact Rel.new_bx (L := []) r2 hp hds
section
variable {P : Program} {w : World} {K : PySem.W.Frag} {mg : Str → Option Value} {base : Heap} {c : Gh}
/-- the law: its first statement lays the box, the rest is told by f -/
def spLaw (c : Gh) : Sp := fun vs H Q _ => ∃ (a : Addr) (ns : List Int), vs = [.ref a] ∧ SqL c.K H a (ns.map V.int) ∧ ns.length ≤ 63 ∧ ∃ G, Rel c G H [] ∧ ∀ H', Q (.bl true) H'
def runLaw (m : Nat) (f : FS) (ns : List Int) : M MV := do
  let (fl, _) ← f (none :: some (.bx, boxD ns) :: List.replicate m none)
  flR fl
def tLawB (c : Gh) (f : FS) : TS := tSeq (tAsg (tCall (spBox c) [] E0 (tCons (tVar 0) tNil)) (gName 1)) (tS c [] f)
theorem law_ok {f : FS} {m : Nat} {N : List Str} (hN : N.length = m + 2) {vs : List V} {H : Hp} {Q : VK} {E : XK} (hf : ∀ ns : List Int, ns.length ≤ 63 → runLaw m f ns = .ok (.sh, .bool true)) (h : spLaw c vs H Q E) : tLawB c f { nx := fun _ H' => Q .non H', rt := Q } (L2.start N vs) H := by
  obtain ⟨a, ns, rfl, hS, hl, G, rl, k⟩ := h
  have e0 : L2.start N [.ref a] = some (.ref a) :: none :: List.replicate m none := by
    unfold L2.start
    rw [hN]
    rfl
  rw [e0]
  refine ⟨.ref a, rfl, a, ns, rfl, hS, hl, G, rl, fun G' p H' s r => ?_⟩
  have e := hf ns hl
  obtain ⟨⟨fl, S'⟩, e1, e⟩ := bind_ok e
  refine ⟨G', _, [], ⟨⟨by simp, fun i x e => ?_⟩, ?_⟩, fl, S', e1, ?_⟩
  · match i with
    | 0 => simp at e
    | 1 => exact ⟨.ref p, rfl⟩
    | i + 2 =>
      simp only [List.getElem?_cons_succ] at e
      rw [List.getElem?_replicate] at e
      split at e <;> simp at e
  · have : prs (List.set (some (V.ref a) :: none :: List.replicate m none) 1 (some (.ref p))) (none :: some (.bx, boxD ns) :: List.replicate m none) = [(.bx, .ref p, boxD ns)] := by
      show List.filterMap one ((some (V.ref a), none) :: (some (V.ref p), some (Md.bx, boxD ns)) :: (List.replicate m none).zip (List.replicate m none)) = _
      have z : ∀ m : Nat, List.filterMap one (((List.replicate m none : List (Option V)).zip (List.replicate m none : SS))) = [] := fun m => by
        induction m with
        | zero => rfl
        | succ m ih => simp only [List.replicate_succ, List.zip_cons_cons, List.filterMap_cons, one_none, ih]
      simp only [List.filterMap_cons, one, z]
    rw [this]
    exact r
  · cases fl with
    | rt r0 =>
      cases e
      intro G1 v σ1 H1 s1 p1 ok1
      have hv : Dq c.K G1 v (.bool true) := sh_dq (ok1.rel.view (List.mem_append_left _ List.mem_cons_self))
      cases hv
      exact k H1
    | nx => cases e
    | bk => cases e
    | ct => cases e
/-- a def by a reading of its own, any promise -/
theorem fnAny {x : Str} {st : Stmt} {f : Addr} {fd : FuncData} {cd : Addr} {N ps : List Str} {k : Nat} {sp : Sp} (F : DefC K mg x st f fd cd) (S : FnScope N ps (C8.fnScope st)) (len : ∀ vs H Q E, sp vs H Q E → vs.length = ps.length)
    (hb : ∀ (A : Around) (outer : List Env) (s : Shared) (H : Hp) (E : XK), Room k (A.deeper (envOfC x (C8.fnScope st) s.heap.objs.size f (.ref cd))) → ∃ t, PSs (cxOf C8.CX0 P w K mg base N x (C8.fnScope st) f (.ref cd) A outer s H E).nox (C8.fnBody st) t ∧
      ∀ (vs : List V) (Q : VK), sp vs H Q E → t { nx := fun _ H' => Q .non H', rt := Q } (L2.start N vs) H) : FnOk P w K mg base C8.CX0 (k + 1) f fd ps sp := by
  obtain ⟨oc, od, dV, kV, doc, pm, an, ct, osl, rfl, lk, hcd⟩ := F.fn
  refine fn_of lk hcd S len fun A outer s H vs Q E hr h => ?_
  obtain ⟨t, h1, h2⟩ := hb A outer s H E hr
  exact ⟨t, h1.nox, h2 vs Q h⟩
theorem calAny {x : Str} {st : Stmt} {f : Addr} {fd : FuncData} {cd : Addr} {N ps : List Str} {k : Nat} {sp : Sp} (F : DefC K mg x st f fd cd) (b : Binds K fd ps []) (S : FnScope N ps (C8.fnScope st)) (len : ∀ vs H Q E, sp vs H Q E → vs.length = ps.length)
    (hb : ∀ (A : Around) (outer : List Env) (s : Shared) (H : Hp) (E : XK), Room k (A.deeper (envOfC x (C8.fnScope st) s.heap.objs.size f (.ref cd))) → ∃ t, PSs (cxOf C8.CX0 P w K mg base N x (C8.fnScope st) f (.ref cd) A outer s H E).nox (C8.fnBody st) t ∧
      ∀ (vs : List V) (Q : VK), sp vs H Q E → t { nx := fun _ H' => Q .non H', rt := Q } (L2.start N vs) H) : C8.Cal P w K mg base (k + 1) x sp [] :=
  ⟨f, _, ps, [], fnAny F S len hb, F.mgf, F.kp, b, .nil⟩
end
end O
set_option maxRecDepth 100000
set_option maxHeartbeats 2000000
namespace O
open PySem PySem.Spec PyProof.Rows L2
/-- constants of the written part, by a look -/
def allB (f : Value → D → Bool) : List Value → List D → Bool
  | [], [] => true
  | v :: vs, d :: ds => f v d && allB f vs ds
  | _, _ => false
def dqB (K : PySem.W.Frag) : Nat → Value → D → Bool
  | _, .none, .none => true
  | _, .bool b, .bool e => b == e
  | _, .int i _, .int j => i == j
  | _, .str x _, .str y => x == y
  | n + 1, .ref a, .tuple ds => match K.lookup a with
    | some ⟨.type "tuple", none, .seq its _, _⟩ => decide (its.size ≤ sizeLine) && allB (dqB K n) its.toList ds
    | _ => false
  | _, _, _ => false
theorem allB_ok {K : PySem.W.Frag} {f : Value → D → Bool} (hf : ∀ v d, f v d = true → ∃ w, RelV w v ∧ ∀ G, Dq K G w d) : ∀ {vs : List Value} {ds : List D}, allB f vs ds = true → ∃ ws, Vals ws vs ∧ ∀ G, DqAll K G ws ds
  | [], [], _ => ⟨[], .nil, fun _ => .nil⟩
  | [], _ :: _, h => by cases h
  | _ :: _, [], h => by cases h
  | v :: vs, d :: ds, h => by
    unfold allB at h
    rw [Bool.and_eq_true] at h
    obtain ⟨w, r, q⟩ := hf v d h.1
    obtain ⟨ws, rs, qs⟩ := allB_ok hf h.2
    exact ⟨w :: ws, .cons r rs, fun G => .cons (q G) (qs G)⟩
theorem dqB_ok {K : PySem.W.Frag} : ∀ (n : Nat) (v : Value) (d : D), dqB K n v d = true → ∃ w, RelV w v ∧ ∀ G, Dq K G w d := by
  intro n
  induction n with
  | zero =>
    intro v d h
    unfold dqB at h
    split at h
    · exact ⟨.non, rfl, fun _ => .non⟩
    · have := eq_of_beq h; subst this; exact ⟨.bl _, rfl, fun _ => .bl _⟩
    · have := eq_of_beq h; subst this; exact ⟨.int _, ⟨_, rfl⟩, fun _ => .int _⟩
    · have := eq_of_beq h; subst this; exact ⟨.str _, ⟨_, rfl⟩, fun _ => .str _⟩
    · omega
    · cases h
  | succ n ih =>
    intro v d h
    unfold dqB at h
    split at h
    · exact ⟨.non, rfl, fun _ => .non⟩
    · have := eq_of_beq h; subst this; exact ⟨.bl _, rfl, fun _ => .bl _⟩
    · have := eq_of_beq h; subst this; exact ⟨.int _, ⟨_, rfl⟩, fun _ => .int _⟩
    · have := eq_of_beq h; subst this; exact ⟨.str _, ⟨_, rfl⟩, fun _ => .str _⟩
    · rename_i a ds e
      cases e
      split at h
      · rename_i its m sl hl
        rw [Bool.and_eq_true, decide_eq_true_eq] at h
        obtain ⟨ws, rs, qs⟩ := allB_ok (fun v d => ih v d) h.2
        exact ⟨.ref a, rfl, fun G => .tup (.inr ⟨_, its, m, hl, rfl, rfl, h.1, rs⟩) (qs G) fun _ => .inl ⟨_, hl, rfl, rfl⟩⟩
      · cases h
    · cases h
theorem glob_of {K : PySem.W.Frag} {h : Heap} {mg : Str → Option Value} {x : Str} {v : Value} {d : D} (X : K.In h) (G : h.Ns mainGlobals mg) (a : PySem.W.nsIn K mainGlobals x = some (some v)) (b : dqB K 9 v d = true) : ∃ w u, mg x = some u ∧ RelV w u ∧ ∀ G, Dq K G w d := by
  obtain ⟨w, r, q⟩ := dqB_ok 9 v d b
  exact ⟨w, v, PySem.W.mg_of X G a, r, q⟩
/-- nothing is held at the start -/
theorem rel0 {K : PySem.W.Frag} {T : List Addr} {H : Hp} (h : ∀ P ∈ T, H P = some (.tbl #[])) : Rel ⟨K, T, fun _ => none⟩ (fun _ => none) H [] :=
  ⟨fun _ _ e => (nomatch (show (none : Option HO) = some _ from e)), fun _ _ e => (nomatch (show (none : Option HO) = some _ from e)), fun a o e => (nomatch (show (none : Option HO) = some o from e)), fun P hP => ⟨#[], h P hP, trivial⟩, [], .nil, List.nodup_nil, fun a ha => absurd ha (by simp)⟩
theorem tabB_of {base : Heap} {mg : Str → Option Value} {c P : Addr} (h : LamX.TabB base mg c P) : GxR.TabB base mg c P := ⟨h.code, h.bm, h.gP⟩
end O
set_option maxRecDepth 100000
set_option maxHeartbeats 1000000
/-! exceptions: raise X(), isinstance(e, (A, B, ..)) -/
namespace O
open PySem PySem.Spec PyProof.Rows L2
section
variable {X : Cx} {C : Addr} {bmB : List Value} {B newId initId : String}
/-- X() -/
theorem pmk_own0 {x : Str} {p pos : Pos} (F : ExcBaseFacts B newId initId bmB) (q : PySem.W.excIn X.K C bmB newId = true) (gC : X.mg x = some (.ref C)) (kC : PySem.W.keepIn X.K (.ref C) = true) (r : Raises X (.ref C)) (hg : Gl X x)
    (hdb : (x == ("__debug__" : Str)) = false := by decide) : L2.PMk X (.Call (.Name x p) [] [] pos) (fun _ H Q => Q (.ref C) none H) := by
  intro pins s σ H Q I h
  refine wpAny_Call_Name_kw (ld_glob I hg gC ?_ hdb)
  refine PySem.W.callWith_K0 I.kIn kC ?_
  show wpAny _ _ (call (.ref C) []) _ _ _
  obtain ⟨bm, N, nm, qn, bs, hdct, sn, sub, ab, col, dd, k0, k1, k2, k3, k5, mN, hC, hN, hni, T⟩ := exc_obj I.kIn q
  refine wpAny_call_exc_subT F T hC hN hni (fun h' e hm => ?_) (Nat.zero_le _)
  exact L2.mk_of I hm r h (I.hok.gone hm.new)
end
/-- isinstance(e, (A, B, ..)), e the exception that the suite holds -/
def rIsET (K : PySem.W.Frag) (D a : Addr) : List V → Hp → VK → Prop := fun xs H Q => ∃ (tp : Addr) (cs : List V) (us : List Value) (b : Bool), xs = [.ref a, .ref tp] ∧ H tp = some (.tup cs) ∧ Paired ClsV cs us ∧ PySem.W.kitAny K (.ref D) us = some b ∧ Q (.bl b) H
theorem call_isET {X : Cx} {a D : Addr} {oe : Obj} {pn : List (Addr × Obj)} (C : ExcC X.K D) (hz : Zc (.ref D) none oe) (hf : ∃ vs, oe.data = .fields vs) : CallR (X.suite a ((a, oe) :: pn)) (.builtin "isinstance") (rIsET X.K D a) := by
  intro pins s σ H xs us Q I r h
  obtain ⟨tp, cs, ws, b, rfl, hT, k, e, q⟩ := h
  cases r with
  | cons rx rr =>
    cases rr with
    | cons rt rr =>
      cases rr
      cases rx
      rename_i u2
      cases (show u2 = Value.ref tp from rt)
      obtain ⟨hget, _⟩ := I.pin (a, oe) (List.mem_append.mpr (.inl List.mem_cons_self))
      obtain ⟨vs, hv⟩ := hf
      have J : PySem.W.InstAt s.heap a oe D none := by
        obtain ⟨oc, od, oda, osl⟩ := oe
        obtain ⟨h1, h2⟩ := hz
        dsimp only at h1 h2 hv
        subst h1 h2 hv
        exact ⟨hget, rfl, rfl, trivial⟩
      obtain ⟨_, its, rv, o, h1, h2, n, h3⟩ := (show ObjOk X.prog X.w H s.heap tp (.tup cs) from I.hok tp _ hT)
      have e3 := ClsV.all k rv
      subst e3
      obtain ⟨oc, od, dt, sl⟩ := o
      simp only at h2 h3
      subst h2 h3
      exact PySem.W.kia_tup (PySem.W.handS_kitx_exc C.hg C.hk C.hs C.hd C.ha C.hn C.ht C.hm) I.kIn J h1 e (fun z => nomatch z) fun tk => ⟨.bl b, H, I.kept (t' := tk) fun _ _ z => z, rfl, q⟩
end O
set_option maxRecDepth 100000
/-! the plain side: rules that work a pure reading out -/
namespace O
open PySem
def thenK {α β : Type} (x : M α) (k : α → M β) : M β := x >>= k
@[simp] theorem thenK_ok {α β : Type} {a : α} {k : α → M β} : thenK (.ok a) k = k a := (rfl)
@[simp] theorem ex_bind {α β : Type} (a : α) (f : α → M β) : (Except.ok a >>= f) = f a := rfl
@[simp] theorem ex_pure {α : Type} (a : α) : (pure a : M α) = Except.ok a := rfl
/-! the combinators, one step each -/
def getK (i : Nat) (S : SS) : M MV := match S[i]? with
  | some (some r) => .ok r
  | _ => stk
@[simp] theorem getK_0 {r : MV} {S : SS} : getK 0 (some r :: S) = .ok r := (rfl)
@[simp] theorem getK_s {i : Nat} {x : Option MV} {S : SS} : getK (i + 1) (x :: S) = getK i S := (rfl)
@[simp] theorem getK_1 {x : Option MV} {S : SS} : getK 1 (x :: S) = getK 0 S := (rfl)
@[simp] theorem getK_2 {x : Option MV} {S : SS} : getK 2 (x :: S) = getK 1 S := (rfl)
@[simp] theorem getK_3 {x : Option MV} {S : SS} : getK 3 (x :: S) = getK 2 S := (rfl)
@[simp] theorem getK_4 {x : Option MV} {S : SS} : getK 4 (x :: S) = getK 3 S := (rfl)
@[simp] theorem getK_5 {x : Option MV} {S : SS} : getK 5 (x :: S) = getK 4 S := (rfl)
@[simp] theorem getK_6 {x : Option MV} {S : SS} : getK 6 (x :: S) = getK 5 S := (rfl)
@[simp] theorem getK_7 {x : Option MV} {S : SS} : getK 7 (x :: S) = getK 6 S := (rfl)
@[simp] theorem getK_8 {x : Option MV} {S : SS} : getK 8 (x :: S) = getK 7 S := (rfl)
@[simp] theorem getK_9 {x : Option MV} {S : SS} : getK 9 (x :: S) = getK 8 S := (rfl)
@[simp] theorem getK_10 {x : Option MV} {S : SS} : getK 10 (x :: S) = getK 9 S := (rfl)
@[simp] theorem getK_11 {x : Option MV} {S : SS} : getK 11 (x :: S) = getK 10 S := (rfl)
@[simp] theorem getK_12 {x : Option MV} {S : SS} : getK 12 (x :: S) = getK 11 S := (rfl)
@[simp] theorem getK_13 {x : Option MV} {S : SS} : getK 13 (x :: S) = getK 12 S := (rfl)
@[simp] theorem getK_14 {x : Option MV} {S : SS} : getK 14 (x :: S) = getK 13 S := (rfl)
@[simp] theorem getK_15 {x : Option MV} {S : SS} : getK 15 (x :: S) = getK 14 S := (rfl)
@[simp] theorem getK_16 {x : Option MV} {S : SS} : getK 16 (x :: S) = getK 15 S := (rfl)
@[simp] theorem getK_17 {x : Option MV} {S : SS} : getK 17 (x :: S) = getK 16 S := (rfl)
@[simp] theorem getK_18 {x : Option MV} {S : SS} : getK 18 (x :: S) = getK 17 S := (rfl)
@[simp] theorem getK_19 {x : Option MV} {S : SS} : getK 19 (x :: S) = getK 18 S := (rfl)
@[simp] theorem getK_20 {x : Option MV} {S : SS} : getK 20 (x :: S) = getK 19 S := (rfl)
@[simp] theorem getK_21 {x : Option MV} {S : SS} : getK 21 (x :: S) = getK 20 S := (rfl)
@[simp] theorem getK_22 {x : Option MV} {S : SS} : getK 22 (x :: S) = getK 21 S := (rfl)
@[simp] theorem getK_23 {x : Option MV} {S : SS} : getK 23 (x :: S) = getK 22 S := (rfl)
@[simp] theorem getK_24 {x : Option MV} {S : SS} : getK 24 (x :: S) = getK 23 S := (rfl)
def k_runD_3 (r : MV) : List MV → M (MV × List MV) := fun fs => .ok (r, fs)
@[simp] theorem k_runD_3_ok (r : MV) {fs : List MV} : k_runD_3 r fs = .ok (r, fs) := (rfl)
def k_runD_2 (io : List Nat) (S : SS) : MV → M (MV × List MV) := fun r => thenK (takesD io S) (k_runD_3 r)
@[simp] theorem k_runD_2_ok (io : List Nat) (S : SS) {r : MV} : k_runD_2 io S r = thenK (takesD io S) (k_runD_3 r) := (rfl)
def k_runD_1 (io : List Nat) : Fl × SS → M (MV × List MV) := fun (fl, S) => thenK (flR fl) (k_runD_2 io S)
@[simp] theorem k_runD_1_ok (io : List Nat) {fl : Fl} {S : SS} : k_runD_1 io (fl, S) = thenK (flR fl) (k_runD_2 io S) := (rfl)
@[simp] theorem u_runD {m : Nat} {io : List Nat} {body : FS} {rs : List MV} : runD m io body rs = thenK (body (rs.map some ++ List.replicate (m - rs.length) none)) (k_runD_1 io) := (rfl)
@[simp] theorem u_flR_nx : flR .nx = .ok (.sh, .none) := (rfl)
@[simp] theorem u_flR_rt {r : MV} : flR (.rt r) = .ok r := (rfl)
@[simp] theorem u_takes0 {S : SS} : takesD [] S = .ok [] := (rfl)
def k_takes_1 (r : MV) : List MV → M (List MV) := fun rs => .ok (r :: rs)
@[simp] theorem k_takes_1_ok {r : MV} {rs : List MV} : k_takes_1 r rs = .ok (r :: rs) := (rfl)
def k_takes_0 (i : Nat) (is : List Nat) (S : SS) : MV → M (List MV) := fun r => thenK (takesD is (S.set i none)) (k_takes_1 r)
@[simp] theorem k_takes_0_ok {i : Nat} {is : List Nat} {S : SS} {r : MV} : k_takes_0 i is S r = thenK (takesD is (S.set i none)) (k_takes_1 r) := (rfl)
@[simp] theorem u_takes1 {i : Nat} {S : SS} {is : List Nat} : takesD (i :: is) S = thenK (getK i S) (k_takes_0 i is S) := by
  show (match S[i]? with | some (some r) => _ | _ => _) = _
  unfold getK thenK k_takes_0
  rcases h : S[i]? with _ | ⟨_ | r⟩ <;> rfl
@[simp] theorem u_sNil {S : SS} : sNil S = .ok (.nx, S) := (rfl)
def k_sSeq_1 (g : FS) : Fl × SS → M (Fl × SS) := fun (fl, S1) => match fl with | .nx => g S1 | .bk => .ok (.bk, S1) | .ct => .ok (.ct, S1) | .rt r => .ok (.rt r, S1)
@[simp] theorem k_sSeq_1_c0 (g : FS) {S1 : SS} : k_sSeq_1 g (.nx, S1) = g S1 := (rfl)
@[simp] theorem k_sSeq_1_c1 (g : FS) {S1 : SS} : k_sSeq_1 g (.bk, S1) = .ok (.bk, S1) := (rfl)
@[simp] theorem k_sSeq_1_c2 (g : FS) {S1 : SS} : k_sSeq_1 g (.ct, S1) = .ok (.ct, S1) := (rfl)
@[simp] theorem k_sSeq_1_c3 (g : FS) {S1 : SS} {r : MV} : k_sSeq_1 g (.rt r, S1) = .ok (.rt r, S1) := (rfl)
@[simp] theorem u_sSeq {f : FS} {g : FS} {S : SS} : sSeq f g S = thenK (f S) (k_sSeq_1 g) := (rfl)
def k_sRet_1  : MV × SS → M (Fl × SS) := fun (r, S1) => .ok (.rt r, S1)
@[simp] theorem k_sRet_1_ok  {r : MV} {S1 : SS} : k_sRet_1 (r, S1) = .ok (.rt r, S1) := (rfl)
@[simp] theorem u_sRet {f : FE} {S : SS} : sRet f S = thenK (f S) (k_sRet_1) := (rfl)
@[simp] theorem u_sRetN {S : SS} : sRetN S = .ok (.rt (.sh, .none), S) := (rfl)
def k_sIf_1 (f : FS) (g : FS) : Bool × SS → M (Fl × SS) := fun (b, S1) => if b then f S1 else g S1
@[simp] theorem k_sIf_1_c0 (f : FS) (g : FS) {S1 : SS} : k_sIf_1 f g (true, S1) = f S1 := (rfl)
@[simp] theorem k_sIf_1_c1 (f : FS) (g : FS) {S1 : SS} : k_sIf_1 f g (false, S1) = g S1 := (rfl)
@[simp] theorem u_sIf {t : FT} {f : FS} {g : FS} {S : SS} : sIf t f g S = thenK (t S) (k_sIf_1 f g) := (rfl)
def k_sDrop_1  : MV × SS → M (Fl × SS) := fun (r, S1) => .ok (.nx, S1)
@[simp] theorem k_sDrop_1_ok  {r : MV} {S1 : SS} : k_sDrop_1 (r, S1) = .ok (.nx, S1) := (rfl)
@[simp] theorem u_sDrop {f : FE} {S : SS} : sDrop f S = thenK (f S) (k_sDrop_1) := (rfl)
@[simp] theorem u_sBk {S : SS} : sBk S = .ok (.bk, S) := (rfl)
@[simp] theorem u_sCt {S : SS} : sCt S = .ok (.ct, S) := (rfl)
@[simp] theorem u_gNm {S : SS} {i : Nat} {r : MV} : gNm i r S = .ok (S.set i (some r)) := (rfl)
@[simp] theorem u_gsNil {S : SS} : gsNil [] S = .ok S := (rfl)
@[simp] theorem u_gsCons {S : SS} {g : FG} {gs : FGs} {d : D} {ds : List D} : gsCons g gs (d :: ds) S = thenK (g (.sh, d) S) (gs ds) := (rfl)
@[simp] theorem u_gTp {S : SS} {n : Nat} {gs : FGs} {ds : List D} : gTp n gs (.sh, .tuple ds) S = if ds.length = n then gs ds S else stk := (rfl)
def k_nx : SS → M (Fl × SS) := fun S => .ok (.nx, S)
@[simp] theorem k_nx_ok {S : SS} : k_nx S = .ok (.nx, S) := (rfl)
def k_sAsg (g : FG) : MV × SS → M (Fl × SS) := fun (r, S1) => thenK (g r S1) k_nx
@[simp] theorem k_sAsg_ok {g : FG} {r : MV} {S1 : SS} : k_sAsg g (r, S1) = thenK (g r S1) k_nx := (rfl)
@[simp] theorem u_sAsg {S : SS} {g : FG} {f : FE} : sAsg g f S = thenK (f S) (k_sAsg g) := (rfl)
def k_sAug_1 (i : Nat) : MV × SS → M (Fl × SS) := fun (r, S1) => .ok (.nx, S1.set i (some r))
@[simp] theorem k_sAug_1_ok (i : Nat) {r : MV} {S1 : SS} : k_sAug_1 i (r, S1) = .ok (.nx, S1.set i (some r)) := (rfl)
@[simp] theorem u_sAug {i : Nat} {sem : Sem2} {o : FO} {S : SS} : sAug i sem o S = thenK (fOp2 sem (oP i) o S) (k_sAug_1 i) := (rfl)
def k_sPar_1 (i : Nat) (j : Nat) : List Tk × SS → M (Fl × SS) := fun (ts, S1) => match ts with | [.val r, .val q] => .ok (.nx, (S1.set i (some r)).set j (some q)) | _ => stk
@[simp] theorem k_sPar_1_c0 (i : Nat) (j : Nat) {r q : MV} {S1 : SS} : k_sPar_1 i j ([.val r, .val q], S1) = .ok (.nx, (S1.set i (some r)).set j (some q)) := (rfl)
@[simp] theorem u_sPar {i : Nat} {j : Nat} {f : FA} {S : SS} : sPar i j f S = thenK (f S) (k_sPar_1 i j) := (rfl)
def k_sPar3_1 (i : Nat) (j : Nat) (l : Nat) : List Tk × SS → M (Fl × SS) := fun (ts, S1) => match ts with | [.val r, .val q, .val z] => .ok (.nx, ((S1.set i (some r)).set j (some q)).set l (some z)) | _ => stk
@[simp] theorem k_sPar3_1_c0 (i : Nat) (j : Nat) (l : Nat) {r q z : MV} {S1 : SS} : k_sPar3_1 i j l ([.val r, .val q, .val z], S1) = .ok (.nx, ((S1.set i (some r)).set j (some q)).set l (some z)) := (rfl)
@[simp] theorem u_sPar3 {i : Nat} {j : Nat} {l : Nat} {f : FA} {S : SS} : sPar3 i j l f S = thenK (f S) (k_sPar3_1 i j l) := (rfl)
def k_sFor_1 (g : FG) (body : FS) : List D × SS → M (Fl × SS) := fun (ds, S1) => forD g body ds S1
@[simp] theorem k_sFor_1_ok (g : FG) (body : FS) {ds : List D} {S1 : SS} : k_sFor_1 g body (ds, S1) = forD g body ds S1 := (rfl)
@[simp] theorem u_sFor {fi : FI} {g : FG} {body : FS} {S : SS} : sFor fi g body S = thenK (fi S) (k_sFor_1 g body) := (rfl)
def k_fVar (i : Nat) (S : SS) : MV → M (MV × SS) := fun r => match r with
  | (.sh, d) => .ok ((.sh, d), S)
  | (.bo, d) => .ok ((.bo, d), S)
  | (.ow m, d) => if m.gives then .ok ((.sh, d), S.set i (some (.sh, d))) else stk
  | _ => stk
@[simp] theorem k_fVar_sh {i : Nat} {S : SS} {d : D} : k_fVar i S (.sh, d) = .ok ((.sh, d), S) := (rfl)
@[simp] theorem k_fVar_bo {i : Nat} {S : SS} {d : D} : k_fVar i S (.bo, d) = .ok ((.bo, d), S) := (rfl)
@[simp] theorem k_fVar_ow {i : Nat} {S : SS} {d : D} : k_fVar i S (.ow .sh, d) = .ok ((.sh, d), S.set i (some (.sh, d))) := (rfl)
@[simp] theorem u_fVar {i : Nat} {S : SS} : fVar i S = thenK (getK i S) (k_fVar i S) := by
  unfold fVar getK thenK k_fVar
  rcases h : S[i]? with _ | ⟨_ | ⟨m, d⟩⟩
  · rfl
  · rfl
  · cases m <;> rfl
def k_fTake (i : Nat) (S : SS) : MV → M (MV × SS) := fun r => .ok (r, S.set i none)
@[simp] theorem k_fTake_ok {i : Nat} {S : SS} {r : MV} : k_fTake i S r = .ok (r, S.set i none) := (rfl)
@[simp] theorem u_fTake {i : Nat} {S : SS} : fTake i S = thenK (getK i S) (k_fTake i S) := by
  unfold fTake getK thenK k_fTake
  rcases h : S[i]? with _ | ⟨_ | r⟩ <;> rfl
@[simp] theorem u_fCon {S : SS} {d : D} : fCon d S = .ok ((.sh, d), S) := (rfl)
def k_fN_3 (S1 : SS) : MV → M (MV × SS) := fun r => .ok (r, S1)
@[simp] theorem k_fN_3_ok (S1 : SS) {r : MV} : k_fN_3 S1 r = .ok (r, S1) := (rfl)
def k_fN_2 (sem : SemN) (S1 : SS) : List MV → M (MV × SS) := fun rs => thenK (sem rs) (k_fN_3 S1)
@[simp] theorem k_fN_2_ok (sem : SemN) (S1 : SS) {rs : List MV} : k_fN_2 sem S1 rs = thenK (sem rs) (k_fN_3 S1) := (rfl)
def k_fN_1 (sem : SemN) : List Tk × SS → M (MV × SS) := fun (ts, S1) => thenK (tkGets ts S1) (k_fN_2 sem S1)
@[simp] theorem k_fN_1_ok (sem : SemN) {ts : List Tk} {S1 : SS} : k_fN_1 sem (ts, S1) = thenK (tkGets ts S1) (k_fN_2 sem S1) := (rfl)
@[simp] theorem u_fN {sem : SemN} {f : FA} {S : SS} : fN sem f S = thenK (f S) (k_fN_1 sem) := (rfl)
def k_fO1_3 (S1 : SS) : MV → M (MV × SS) := fun z => .ok (z, S1)
@[simp] theorem k_fO1_3_ok (S1 : SS) {z : MV} : k_fO1_3 S1 z = .ok (z, S1) := (rfl)
def k_fO1_2 (gg : MV → M MV) (S1 : SS) : MV → M (MV × SS) := fun r => thenK (gg r) (k_fO1_3 S1)
@[simp] theorem k_fO1_2_ok (gg : MV → M MV) (S1 : SS) {r : MV} : k_fO1_2 gg S1 r = thenK (gg r) (k_fO1_3 S1) := (rfl)
def k_fO1_1 (gg : MV → M MV) : Tk × SS → M (MV × SS) := fun (t, S1) => thenK (tkGet t S1) (k_fO1_2 gg S1)
@[simp] theorem k_fO1_1_ok (gg : MV → M MV) {t : Tk} {S1 : SS} : k_fO1_1 gg (t, S1) = thenK (tkGet t S1) (k_fO1_2 gg S1) := (rfl)
@[simp] theorem u_fO1 {gg : MV → M MV} {o : FO} {S : SS} : fO1 gg o S = thenK (o S) (k_fO1_1 gg) := (rfl)
def k_fOp2_5 (S2 : SS) : MV → M (MV × SS) := fun r => .ok (r, S2)
@[simp] theorem k_fOp2_5_ok (S2 : SS) {r : MV} : k_fOp2_5 S2 r = .ok (r, S2) := (rfl)
def k_fOp2_4 (sem : Sem2) (S2 : SS) (ra : MV) : MV → M (MV × SS) := fun rb => thenK (sem ra rb) (k_fOp2_5 S2)
@[simp] theorem k_fOp2_4_ok (sem : Sem2) (S2 : SS) (ra : MV) {rb : MV} : k_fOp2_4 sem S2 ra rb = thenK (sem ra rb) (k_fOp2_5 S2) := (rfl)
def k_fOp2_3 (sem : Sem2) (tb : Tk) (S2 : SS) : MV → M (MV × SS) := fun ra => thenK (tkGet tb S2) (k_fOp2_4 sem S2 ra)
@[simp] theorem k_fOp2_3_ok (sem : Sem2) (tb : Tk) (S2 : SS) {ra : MV} : k_fOp2_3 sem tb S2 ra = thenK (tkGet tb S2) (k_fOp2_4 sem S2 ra) := (rfl)
def k_fOp2_2 (sem : Sem2) (ta : Tk) : Tk × SS → M (MV × SS) := fun (tb, S2) => thenK (tkGet ta S2) (k_fOp2_3 sem tb S2)
@[simp] theorem k_fOp2_2_ok (sem : Sem2) (ta : Tk) {tb : Tk} {S2 : SS} : k_fOp2_2 sem ta (tb, S2) = thenK (tkGet ta S2) (k_fOp2_3 sem tb S2) := (rfl)
def k_fOp2_1 (sem : Sem2) (ob : FO) : Tk × SS → M (MV × SS) := fun (ta, S1) => thenK (ob S1) (k_fOp2_2 sem ta)
@[simp] theorem k_fOp2_1_ok (sem : Sem2) (ob : FO) {ta : Tk} {S1 : SS} : k_fOp2_1 sem ob (ta, S1) = thenK (ob S1) (k_fOp2_2 sem ta) := (rfl)
@[simp] theorem u_fOp2 {sem : Sem2} {oa : FO} {ob : FO} {S : SS} : fOp2 sem oa ob S = thenK (oa S) (k_fOp2_1 sem ob) := (rfl)
def k_fSh_2 (S1 : SS) : MV → M (MV × SS) := fun z => .ok (z, S1)
@[simp] theorem k_fSh_2_ok (S1 : SS) {z : MV} : k_fSh_2 S1 z = .ok (z, S1) := (rfl)
def k_fSh_1  : MV × SS → M (MV × SS) := fun (r, S1) => thenK (giveR r) (k_fSh_2 S1)
@[simp] theorem k_fSh_1_ok  {r : MV} {S1 : SS} : k_fSh_1 (r, S1) = thenK (giveR r) (k_fSh_2 S1) := (rfl)
@[simp] theorem u_fSh {f : FE} {S : SS} : fSh f S = thenK (f S) (k_fSh_1) := (rfl)
def k_oV_1  : MV × SS → M (Tk × SS) := fun (r, S1) => .ok (.val r, S1)
@[simp] theorem k_oV_1_ok  {r : MV} {S1 : SS} : k_oV_1 (r, S1) = .ok (.val r, S1) := (rfl)
@[simp] theorem u_oV {f : FE} {S : SS} : oV f S = thenK (f S) (k_oV_1) := (rfl)
def k_oP (i : Nat) (S : SS) : MV → M (Tk × SS) := fun _ => .ok (.slot i, S)
@[simp] theorem k_oP_ok {i : Nat} {S : SS} {r : MV} : k_oP i S r = .ok (.slot i, S) := (rfl)
@[simp] theorem u_oP {i : Nat} {S : SS} : oP i S = thenK (getK i S) (k_oP i S) := by
  unfold oP getK thenK k_oP
  rcases h : S[i]? with _ | ⟨_ | r⟩ <;> rfl
@[simp] theorem u_aNil {S : SS} : aNil S = .ok ([], S) := (rfl)
@[simp] theorem u_tkGet_val {S : SS} {r : MV} : tkGet (.val r) S = .ok r := (rfl)
@[simp] theorem u_tkGet_slot {S : SS} {i : Nat} : tkGet (.slot i) S = getK i S := (rfl)
@[simp] theorem u_tkGets0 {S : SS} : tkGets [] S = .ok [] := (rfl)
def k_aCons_2 (t : Tk) : List Tk × SS → M (List Tk × SS) := fun (ts, S2) => .ok (t :: ts, S2)
@[simp] theorem k_aCons_2_ok (t : Tk) {ts : List Tk} {S2 : SS} : k_aCons_2 t (ts, S2) = .ok (t :: ts, S2) := (rfl)
def k_aCons_1 (f : FA) : Tk × SS → M (List Tk × SS) := fun (t, S1) => thenK (f S1) (k_aCons_2 t)
@[simp] theorem k_aCons_1_ok (f : FA) {t : Tk} {S1 : SS} : k_aCons_1 f (t, S1) = thenK (f S1) (k_aCons_2 t) := (rfl)
@[simp] theorem u_aCons {o : FO} {f : FA} {S : SS} : aCons o f S = thenK (o S) (k_aCons_1 f) := (rfl)
def k_tkGets_2 (r : MV) : List MV → M (List MV) := fun rs => .ok (r :: rs)
@[simp] theorem k_tkGets_2_ok (r : MV) {rs : List MV} : k_tkGets_2 r rs = .ok (r :: rs) := (rfl)
def k_tkGets_1 (ts : List Tk) (S : SS) : MV → M (List MV) := fun r => thenK (tkGets ts S) (k_tkGets_2 r)
@[simp] theorem k_tkGets_1_ok (ts : List Tk) (S : SS) {r : MV} : k_tkGets_1 ts S r = thenK (tkGets ts S) (k_tkGets_2 r) := (rfl)
@[simp] theorem u_tkGets {t : Tk} {ts : List Tk} {S : SS} : tkGets (t :: ts) S = thenK (tkGet t S) (k_tkGets_1 ts S) := (rfl)
def k_fUn_2 (S1 : SS) : MV → M (MV × SS) := fun z => .ok (z, S1)
@[simp] theorem k_fUn_2_ok (S1 : SS) {z : MV} : k_fUn_2 S1 z = .ok (z, S1) := (rfl)
def k_fUn_1 (gg : MV → M MV) : MV × SS → M (MV × SS) := fun (r, S1) => thenK (gg r) (k_fUn_2 S1)
@[simp] theorem k_fUn_1_ok (gg : MV → M MV) {r : MV} {S1 : SS} : k_fUn_1 gg (r, S1) = thenK (gg r) (k_fUn_2 S1) := (rfl)
@[simp] theorem u_fUn {gg : MV → M MV} {f : FE} {S : SS} : fUn gg f S = thenK (f S) (k_fUn_1 gg) := (rfl)
def k_fAndV_1 (g : FE) : MV × SS → M (MV × SS) := fun (r, S1) => match r.2 with | .bool true => g S1 | .bool false => .ok ((.sh, .bool false), S1) | _ => stk
@[simp] theorem k_fAndV_1_c0 (g : FE) {m : Md} {S1 : SS} : k_fAndV_1 g ((m, .bool true), S1) = g S1 := (rfl)
@[simp] theorem k_fAndV_1_c1 (g : FE) {m : Md} {S1 : SS} : k_fAndV_1 g ((m, .bool false), S1) = .ok ((.sh, .bool false), S1) := (rfl)
@[simp] theorem u_fAndV {f : FE} {g : FE} {S : SS} : fAndV f g S = thenK (f S) (k_fAndV_1 g) := (rfl)
def k_fOrV_1 (g : FE) : MV × SS → M (MV × SS) := fun (r, S1) => match r.2 with | .bool true => .ok ((.sh, .bool true), S1) | .bool false => g S1 | _ => stk
@[simp] theorem k_fOrV_1_c0 (g : FE) {m : Md} {S1 : SS} : k_fOrV_1 g ((m, .bool false), S1) = g S1 := (rfl)
@[simp] theorem k_fOrV_1_c1 (g : FE) {m : Md} {S1 : SS} : k_fOrV_1 g ((m, .bool true), S1) = .ok ((.sh, .bool true), S1) := (rfl)
@[simp] theorem u_fOrV {f : FE} {g : FE} {S : SS} : fOrV f g S = thenK (f S) (k_fOrV_1 g) := (rfl)
def k_fNotV_1  : MV × SS → M (MV × SS) := fun (r, S1) => match r.2 with | .bool b => .ok ((.sh, .bool !b), S1) | _ => stk
@[simp] theorem k_fNotV_1_c0  {m : Md} {S1 : SS} {b : Bool} : k_fNotV_1 ((m, .bool b), S1) = .ok ((.sh, .bool !b), S1) := (rfl)
@[simp] theorem u_fNotV {f : FE} {S : SS} : fNotV f S = thenK (f S) (k_fNotV_1) := (rfl)
def k_fIf_1 (f : FE) (g : FE) : Bool × SS → M (MV × SS) := fun (b, S1) => if b then f S1 else g S1
@[simp] theorem k_fIf_1_c0 (f : FE) (g : FE) {S1 : SS} : k_fIf_1 f g (true, S1) = f S1 := (rfl)
@[simp] theorem k_fIf_1_c1 (f : FE) (g : FE) {S1 : SS} : k_fIf_1 f g (false, S1) = g S1 := (rfl)
@[simp] theorem u_fIf {t : FT} {f : FE} {g : FE} {S : SS} : fIf t f g S = thenK (t S) (k_fIf_1 f g) := (rfl)
def k_tB1_1  : MV × SS → M (Bool × SS) := fun (r, S1) => match r.2 with | .bool b => .ok (b, S1) | _ => stk
@[simp] theorem k_tB1_1_c0  {m : Md} {S1 : SS} {b : Bool} : k_tB1_1 ((m, .bool b), S1) = .ok (b, S1) := (rfl)
@[simp] theorem u_tB1 {f : FE} {S : SS} : tB1 f S = thenK (f S) (k_tB1_1) := (rfl)
def k_fAndT_1 (g : FT) : Bool × SS → M (Bool × SS) := fun (b, S1) => if b then g S1 else .ok (false, S1)
@[simp] theorem k_fAndT_1_c0 (g : FT) {S1 : SS} : k_fAndT_1 g (true, S1) = g S1 := (rfl)
@[simp] theorem k_fAndT_1_c1 (g : FT) {S1 : SS} : k_fAndT_1 g (false, S1) = .ok (false, S1) := (rfl)
@[simp] theorem u_fAndT {f : FT} {g : FT} {S : SS} : fAndT f g S = thenK (f S) (k_fAndT_1 g) := (rfl)
def k_fOrT_1 (g : FT) : Bool × SS → M (Bool × SS) := fun (b, S1) => if b then .ok (true, S1) else g S1
@[simp] theorem k_fOrT_1_c0 (g : FT) {S1 : SS} : k_fOrT_1 g (true, S1) = .ok (true, S1) := (rfl)
@[simp] theorem k_fOrT_1_c1 (g : FT) {S1 : SS} : k_fOrT_1 g (false, S1) = g S1 := (rfl)
@[simp] theorem u_fOrT {f : FT} {g : FT} {S : SS} : fOrT f g S = thenK (f S) (k_fOrT_1 g) := (rfl)
def k_fNotT_1  : Bool × SS → M (Bool × SS) := fun (b, S1) => .ok (!b, S1)
@[simp] theorem k_fNotT_1_ok  {b : Bool} {S1 : SS} : k_fNotT_1 (b, S1) = .ok (!b, S1) := (rfl)
@[simp] theorem u_fNotT {f : FT} {S : SS} : fNotT f S = thenK (f S) (k_fNotT_1) := (rfl)
def k_fChain_9 (S3 : SS) : MV → M (MV × SS) := fun z => .ok (z, S3)
@[simp] theorem k_fChain_9_ok {S3 : SS} {z : MV} : k_fChain_9 S3 z = .ok (z, S3) := (rfl)
def k_fChain_8 (sem' : Sem2) (rb2 : MV) (S3 : SS) : MV → M (MV × SS) := fun rc => thenK (sem' rb2 rc) (k_fChain_9 S3)
@[simp] theorem k_fChain_8_ok {sem' : Sem2} {rb2 : MV} {S3 : SS} {rc : MV} : k_fChain_8 sem' rb2 S3 rc = thenK (sem' rb2 rc) (k_fChain_9 S3) := (rfl)
def k_fChain_7 (sem' : Sem2) (tc : Tk) (S3 : SS) : MV → M (MV × SS) := fun rb2 => thenK (tkGet tc S3) (k_fChain_8 sem' rb2 S3)
@[simp] theorem k_fChain_7_ok {sem' : Sem2} {tc : Tk} {S3 : SS} {rb2 : MV} : k_fChain_7 sem' tc S3 rb2 = thenK (tkGet tc S3) (k_fChain_8 sem' rb2 S3) := (rfl)
def k_fChain_6 (sem' : Sem2) (tb : Tk) : Tk × SS → M (MV × SS) := fun (tc, S3) => thenK (tkGet tb S3) (k_fChain_7 sem' tc S3)
@[simp] theorem k_fChain_6_ok {sem' : Sem2} {tb tc : Tk} {S3 : SS} : k_fChain_6 sem' tb (tc, S3) = thenK (tkGet tb S3) (k_fChain_7 sem' tc S3) := (rfl)
def k_fChain_5 (sem' : Sem2) (oc : FO) (tb : Tk) (S2 : SS) : MV → M (MV × SS) := fun r => match r.2 with | .bool true => thenK (oc S2) (k_fChain_6 sem' tb) | .bool false => .ok ((.sh, .bool false), S2) | _ => stk
@[simp] theorem k_fChain_5_c0 (sem' : Sem2) (oc : FO) (tb : Tk) (S2 : SS) {m : Md} : k_fChain_5 sem' oc tb S2 (m, .bool true) = thenK (oc S2) (k_fChain_6 sem' tb) := (rfl)
@[simp] theorem k_fChain_5_c1 (sem' : Sem2) (oc : FO) (tb : Tk) (S2 : SS) {m : Md} : k_fChain_5 sem' oc tb S2 (m, .bool false) = .ok ((.sh, .bool false), S2) := (rfl)
def k_fChain_4 (sem : Sem2) (sem' : Sem2) (oc : FO) (tb : Tk) (S2 : SS) (ra : MV) : MV → M (MV × SS) := fun rb => thenK (sem ra rb) (k_fChain_5 sem' oc tb S2)
@[simp] theorem k_fChain_4_ok (sem : Sem2) (sem' : Sem2) (oc : FO) (tb : Tk) (S2 : SS) (ra : MV) {rb : MV} : k_fChain_4 sem sem' oc tb S2 ra rb = thenK (sem ra rb) (k_fChain_5 sem' oc tb S2) := (rfl)
def k_fChain_3 (sem : Sem2) (sem' : Sem2) (oc : FO) (tb : Tk) (S2 : SS) : MV → M (MV × SS) := fun ra => thenK (tkGet tb S2) (k_fChain_4 sem sem' oc tb S2 ra)
@[simp] theorem k_fChain_3_ok (sem : Sem2) (sem' : Sem2) (oc : FO) (tb : Tk) (S2 : SS) {ra : MV} : k_fChain_3 sem sem' oc tb S2 ra = thenK (tkGet tb S2) (k_fChain_4 sem sem' oc tb S2 ra) := (rfl)
def k_fChain_2 (sem : Sem2) (sem' : Sem2) (oc : FO) (ta : Tk) : Tk × SS → M (MV × SS) := fun (tb, S2) => thenK (tkGet ta S2) (k_fChain_3 sem sem' oc tb S2)
@[simp] theorem k_fChain_2_ok (sem : Sem2) (sem' : Sem2) (oc : FO) (ta : Tk) {tb : Tk} {S2 : SS} : k_fChain_2 sem sem' oc ta (tb, S2) = thenK (tkGet ta S2) (k_fChain_3 sem sem' oc tb S2) := (rfl)
def k_fChain_1 (sem : Sem2) (sem' : Sem2) (ob : FO) (oc : FO) : Tk × SS → M (MV × SS) := fun (ta, S1) => thenK (ob S1) (k_fChain_2 sem sem' oc ta)
@[simp] theorem k_fChain_1_ok (sem : Sem2) (sem' : Sem2) (ob : FO) (oc : FO) {ta : Tk} {S1 : SS} : k_fChain_1 sem sem' ob oc (ta, S1) = thenK (ob S1) (k_fChain_2 sem sem' oc ta) := (rfl)
@[simp] theorem u_fChain {sem : Sem2} {sem' : Sem2} {oa : FO} {ob : FO} {oc : FO} {S : SS} : fChain sem sem' oa ob oc S = thenK (oa S) (k_fChain_1 sem sem' ob oc) := (rfl)
@[simp] theorem u_grab0 {S : SS} : grab [] S = .ok ([], S) := (rfl)
def k_grabV_1 (r : MV) : List MV × SS → M (List MV × SS) := fun (rs, S1) => .ok (r :: rs, S1)
@[simp] theorem k_grabV_1_ok (r : MV) {rs : List MV} {S1 : SS} : k_grabV_1 r (rs, S1) = .ok (r :: rs, S1) := (rfl)
@[simp] theorem u_grabV {r : MV} {ts : List Tk} {S : SS} : grab (.val r :: ts) S = thenK (grab ts S) (k_grabV_1 r) := (rfl)
def k_grabS (i : Nat) (ts : List Tk) (S : SS) : MV → M (List MV × SS) := fun r => thenK (grab ts (S.set i none)) (k_grabV_1 r)
@[simp] theorem k_grabS_ok {i : Nat} {ts : List Tk} {S : SS} {r : MV} : k_grabS i ts S r = thenK (grab ts (S.set i none)) (k_grabV_1 r) := (rfl)
@[simp] theorem u_grab_slot {i : Nat} {ts : List Tk} {S : SS} : grab (.slot i :: ts) S = thenK (getK i S) (k_grabS i ts S) := by
  show (match S[i]? with | some (some r) => _ | _ => _) = _
  unfold getK thenK k_grabS
  rcases h : S[i]? with _ | ⟨_ | r⟩ <;> rfl
@[simp] theorem u_putB0 {ts : List Tk} {S : SS} : putB ts [] [] S = .ok S := (rfl)
def k_putB (ts : List Tk) (io : List Nat) (f : MV) (fs : List MV) (S : SS) : Option Tk → M SS := fun o => match o with
  | some (.slot i) => if i < S.length then putB ts io fs (S.set i (some f)) else stk
  | some (.val _) => putB ts io fs S
  | none => stk
@[simp] theorem k_putB_slot {ts : List Tk} {io : List Nat} {f : MV} {fs : List MV} {S : SS} {i : Nat} : k_putB ts io f fs S (some (.slot i)) = if i < S.length then putB ts io fs (S.set i (some f)) else stk := (rfl)
@[simp] theorem k_putB_val {ts : List Tk} {io : List Nat} {f : MV} {fs : List MV} {S : SS} {r : MV} : k_putB ts io f fs S (some (.val r)) = putB ts io fs S := (rfl)
@[simp] theorem u_putB1 {ts : List Tk} {io : List Nat} {f : MV} {fs : List MV} {S : SS} {j : Nat} : putB ts (j :: io) (f :: fs) S = k_putB ts io f fs S ts[j]? := (rfl)
def k_fCall_4 (r : MV) : SS → M (MV × SS) := fun S3 => .ok (r, S3)
@[simp] theorem k_fCall_4_ok {r : MV} {S3 : SS} : k_fCall_4 r S3 = .ok (r, S3) := (rfl)
def k_fCall_3 (io : List Nat) (ts : List Tk) (S2 : SS) : MV × List MV → M (MV × SS) := fun (r, fs) => thenK (putB ts io fs S2) (k_fCall_4 r)
@[simp] theorem k_fCall_3_ok {io : List Nat} {ts : List Tk} {S2 : SS} {r : MV} {fs : List MV} : k_fCall_3 io ts S2 (r, fs) = thenK (putB ts io fs S2) (k_fCall_4 r) := (rfl)
def k_fCall_2 (n : Nat) (io : List Nat) (sem : SemF) (ts : List Tk) : List MV × SS → M (MV × SS) := fun (rs, S2) => if rs.length = n then thenK (sem rs) (k_fCall_3 io ts S2) else stk
@[simp] theorem k_fCall_2_ok {n : Nat} {io : List Nat} {sem : SemF} {ts : List Tk} {rs : List MV} {S2 : SS} : k_fCall_2 n io sem ts (rs, S2) = if rs.length = n then thenK (sem rs) (k_fCall_3 io ts S2) else stk := (rfl)
def k_fCall_1 (n : Nat) (io : List Nat) (sem : SemF) : List Tk × SS → M (MV × SS) := fun (ts, S1) => thenK (grab ts S1) (k_fCall_2 n io sem ts)
@[simp] theorem k_fCall_1_ok {n : Nat} {io : List Nat} {sem : SemF} {ts : List Tk} {S1 : SS} : k_fCall_1 n io sem (ts, S1) = thenK (grab ts S1) (k_fCall_2 n io sem ts) := (rfl)
@[simp] theorem u_fCall {n : Nat} {io : List Nat} {sem : SemF} {f : FA} {S : SS} : fCall n io sem f S = thenK (f S) (k_fCall_1 n io sem) := (rfl)
def k_fiSeq_2 (S1 : SS) : MV → M (List D × SS) := fun z => match z.2 with | .list ds => .ok (ds, S1) | .tuple ds => .ok (ds, S1) | .str x => .ok (signs x, S1) | _ => stk
@[simp] theorem k_fiSeq_2_c0 (S1 : SS) {m : Md} {ds : List D} : k_fiSeq_2 S1 (m, .list ds) = .ok (ds, S1) := (rfl)
@[simp] theorem k_fiSeq_2_c1 (S1 : SS) {m : Md} {ds : List D} : k_fiSeq_2 S1 (m, .tuple ds) = .ok (ds, S1) := (rfl)
@[simp] theorem k_fiSeq_2_c2 (S1 : SS) {m : Md} {x : Str} : k_fiSeq_2 S1 (m, .str x) = .ok (signs x, S1) := (rfl)
def k_fiSeq_1  : MV × SS → M (List D × SS) := fun (r, S1) => thenK (giveR r) (k_fiSeq_2 S1)
@[simp] theorem k_fiSeq_1_ok  {r : MV} {S1 : SS} : k_fiSeq_1 (r, S1) = thenK (giveR r) (k_fiSeq_2 S1) := (rfl)
@[simp] theorem u_fiSeq {f : FE} {S : SS} : fiSeq f S = thenK (f S) (k_fiSeq_1) := (rfl)
def k_fiA_3 (S1 : SS) : List D → M (List D × SS) := fun ds => .ok (ds, S1)
@[simp] theorem k_fiA_3_ok (S1 : SS) {ds : List D} : k_fiA_3 S1 ds = .ok (ds, S1) := (rfl)
def k_fiA_2 (sem : List MV → M (List D)) (S1 : SS) : List MV → M (List D × SS) := fun rs => thenK (sem rs) (k_fiA_3 S1)
@[simp] theorem k_fiA_2_ok (sem : List MV → M (List D)) (S1 : SS) {rs : List MV} : k_fiA_2 sem S1 rs = thenK (sem rs) (k_fiA_3 S1) := (rfl)
def k_fiA_1 (sem : List MV → M (List D)) : List Tk × SS → M (List D × SS) := fun (ts, S1) => thenK (tkGets ts S1) (k_fiA_2 sem S1)
@[simp] theorem k_fiA_1_ok (sem : List MV → M (List D)) {ts : List Tk} {S1 : SS} : k_fiA_1 sem (ts, S1) = thenK (tkGets ts S1) (k_fiA_2 sem S1) := (rfl)
@[simp] theorem u_fiA {sem : List MV → M (List D)} {f : FA} {S : SS} : fiA sem f S = thenK (f S) (k_fiA_1 sem) := (rfl)
@[simp] theorem u_ftYes {S : SS} : ftYes S = .ok (true, S) := (rfl)
def k_lst : MV → M (List D) := fun r => match r with
  | (.ow .sh, .list ds) => .ok ds
  | _ => stk
@[simp] theorem k_lst_ok {ds : List D} : k_lst (.ow .sh, .list ds) = .ok ds := (rfl)
@[simp] theorem u_lstAt {S : SS} {i : Nat} : lstAt S i = thenK (getK i S) k_lst := by
  unfold lstAt getK thenK k_lst
  rcases h : S[i]? with _ | ⟨_ | ⟨m, d⟩⟩
  · rfl
  · rfl
  · rcases m with _ | _ | _ | _ | _ | m
    · rfl
    · rfl
    · rfl
    · rfl
    · rfl
    · cases m <;> cases d <;> rfl
def k_fMt_5 (i : Nat) (S1 : SS) : List D × MV → M (MV × SS) := fun (ds2, r) => .ok (r, S1.set i (some (.ow .sh, .list ds2)))
@[simp] theorem k_fMt_5_ok (i : Nat) (S1 : SS) {ds2 : List D} {r : MV} : k_fMt_5 i S1 (ds2, r) = .ok (r, S1.set i (some (.ow .sh, .list ds2))) := (rfl)
def k_fMt_4 (i : Nat) (sem : SemM) (S1 : SS) (ds : List D) : List MV → M (MV × SS) := fun rs => thenK (sem ds rs) (k_fMt_5 i S1)
@[simp] theorem k_fMt_4_ok (i : Nat) (sem : SemM) (S1 : SS) (ds : List D) {rs : List MV} : k_fMt_4 i sem S1 ds rs = thenK (sem ds rs) (k_fMt_5 i S1) := (rfl)
def k_fMt_3 (i : Nat) (sem : SemM) (ts : List Tk) (S1 : SS) : List D → M (MV × SS) := fun ds => thenK (tkGets ts S1) (k_fMt_4 i sem S1 ds)
@[simp] theorem k_fMt_3_ok (i : Nat) (sem : SemM) (ts : List Tk) (S1 : SS) {ds : List D} : k_fMt_3 i sem ts S1 ds = thenK (tkGets ts S1) (k_fMt_4 i sem S1 ds) := (rfl)
def k_fMt_2 (i : Nat) (sem : SemM) : List Tk × SS → M (MV × SS) := fun (ts, S1) => thenK (lstAt S1 i) (k_fMt_3 i sem ts S1)
@[simp] theorem k_fMt_2_ok (i : Nat) (sem : SemM) {ts : List Tk} {S1 : SS} : k_fMt_2 i sem (ts, S1) = thenK (lstAt S1 i) (k_fMt_3 i sem ts S1) := (rfl)
def k_fMt_1 (i : Nat) (sem : SemM) (f : FA) (S : SS) : List D → M (MV × SS) := fun acc => thenK (f S) (k_fMt_2 i sem)
@[simp] theorem k_fMt_1_ok (i : Nat) (sem : SemM) (f : FA) (S : SS) {acc : List D} : k_fMt_1 i sem f S acc = thenK (f S) (k_fMt_2 i sem) := (rfl)
@[simp] theorem u_fMt {i : Nat} {sem : SemM} {f : FA} {S : SS} : fMt i sem f S = thenK (lstAt S i) (k_fMt_1 i sem f S) := (rfl)
def k_bx : MV → M (D × List D) := fun r => match r with
  | (.bx, .list (e :: ds)) => .ok (e, ds)
  | _ => stk
@[simp] theorem k_bx_ok {e : D} {ds : List D} : k_bx (.bx, .list (e :: ds)) = .ok (e, ds) := (rfl)
@[simp] theorem u_bxAt {S : SS} {i : Nat} : bxAt S i = thenK (getK i S) k_bx := by
  unfold bxAt getK thenK k_bx
  rcases h : S[i]? with _ | ⟨_ | ⟨m, d⟩⟩
  · rfl
  · rfl
  · rcases m with _ | _ | _ | _ | _ | m
    · rfl
    · rfl
    · cases d with
      | list xs => cases xs <;> rfl
      | _ => rfl
    · rfl
    · rfl
    · rfl
def k_gIxB_2 (i k : Nat) (S : SS) (z : MV) : D × List D → M SS := fun (e, ds) => if k < ds.length then .ok (S.set i (some (.bx, .list (e :: ds.set k z.2)))) else stk
@[simp] theorem k_gIxB_2_ok {i k : Nat} {S : SS} {z : MV} {e : D} {ds : List D} : k_gIxB_2 i k S z (e, ds) = if k < ds.length then .ok (S.set i (some (.bx, .list (e :: ds.set k z.2)))) else stk := (rfl)
def k_gIxB_1 (i k : Nat) (S : SS) : MV → M SS := fun z => thenK (bxAt S i) (k_gIxB_2 i k S z)
@[simp] theorem k_gIxB_1_ok {i k : Nat} {S : SS} {z : MV} : k_gIxB_1 i k S z = thenK (bxAt S i) (k_gIxB_2 i k S z) := (rfl)
@[simp] theorem u_gIxB {i k : Nat} {r : MV} {S : SS} : gIxB i k r S = thenK (giveR r) (k_gIxB_1 i k S) := (rfl)
@[simp] theorem u_fPN {S : SS} : fPN S = .ok (none, S) := (rfl)
def k_fPS_1  : MV × SS → M (Option Int × SS) := fun (r, S1) => match r.2 with | .int i => .ok (some i, S1) | _ => stk
@[simp] theorem k_fPS_1_c0  {m : Md} {i : Int} {S1 : SS} : k_fPS_1 ((m, .int i), S1) = .ok (some i, S1) := (rfl)
@[simp] theorem u_fPS {f : FE} {S : SS} : fPS f S = thenK (f S) (k_fPS_1) := (rfl)
def k_fSl_5 (S3 : SS) : MV → M (MV × SS) := fun z => .ok (z, S3)
@[simp] theorem k_fSl_5_ok (S3 : SS) {z : MV} : k_fSl_5 S3 z = .ok (z, S3) := (rfl)
def k_fSl_4 (a : Option Int) (h2 : Option Int) (S3 : SS) : MV → M (MV × SS) := fun r => thenK (cutOf r a h2) (k_fSl_5 S3)
@[simp] theorem k_fSl_4_ok (a : Option Int) (h2 : Option Int) (S3 : SS) {r : MV} : k_fSl_4 a h2 S3 r = thenK (cutOf r a h2) (k_fSl_5 S3) := (rfl)
def k_fSl_3 (t : Tk) (a : Option Int) : Option Int × SS → M (MV × SS) := fun (h2, S3) => thenK (tkGet t S3) (k_fSl_4 a h2 S3)
@[simp] theorem k_fSl_3_ok (t : Tk) (a : Option Int) {h2 : Option Int} {S3 : SS} : k_fSl_3 t a (h2, S3) = thenK (tkGet t S3) (k_fSl_4 a h2 S3) := (rfl)
def k_fSl_2 (h : FPt) (t : Tk) : Option Int × SS → M (MV × SS) := fun (a, S2) => thenK (h S2) (k_fSl_3 t a)
@[simp] theorem k_fSl_2_ok (h : FPt) (t : Tk) {a : Option Int} {S2 : SS} : k_fSl_2 h t (a, S2) = thenK (h S2) (k_fSl_3 t a) := (rfl)
def k_fSl_1 (l : FPt) (h : FPt) : Tk × SS → M (MV × SS) := fun (t, S1) => thenK (l S1) (k_fSl_2 h t)
@[simp] theorem k_fSl_1_ok (l : FPt) (h : FPt) {t : Tk} {S1 : SS} : k_fSl_1 l h (t, S1) = thenK (l S1) (k_fSl_2 h t) := (rfl)
@[simp] theorem u_fSl {o : FO} {l : FPt} {h : FPt} {S : SS} : fSl o l h S = thenK (o S) (k_fSl_1 l h) := (rfl)
def k_fRev_3 (S1 : SS) : MV → M (MV × SS) := fun z => .ok (z, S1)
@[simp] theorem k_fRev_3_ok (S1 : SS) {z : MV} : k_fRev_3 S1 z = .ok (z, S1) := (rfl)
def k_fRev_2 (S1 : SS) : MV → M (MV × SS) := fun r => thenK (revOf r) (k_fRev_3 S1)
@[simp] theorem k_fRev_2_ok (S1 : SS) {r : MV} : k_fRev_2 S1 r = thenK (revOf r) (k_fRev_3 S1) := (rfl)
def k_fRev_1  : Tk × SS → M (MV × SS) := fun (t, S1) => thenK (tkGet t S1) (k_fRev_2 S1)
@[simp] theorem k_fRev_1_ok  {t : Tk} {S1 : SS} : k_fRev_1 (t, S1) = thenK (tkGet t S1) (k_fRev_2 S1) := (rfl)
@[simp] theorem u_fRev {o : FO} {S : SS} : fRev o S = thenK (o S) (k_fRev_1) := (rfl)
def k_fLc_2 (vs : List Nat) (S1 : SS) : List D × SS → M (MV × SS) := fun (acc, S2) => .ok ((.ow .sh, .list acc), mrg (inP vs) 0 S1 S2)
@[simp] theorem k_fLc_2_ok {vs : List Nat} {S1 S2 : SS} {acc : List D} : k_fLc_2 vs S1 (acc, S2) = .ok ((.ow .sh, .list acc), mrg (inP vs) 0 S1 S2) := (rfl)
def k_fLc_1 (n : Nat) (vs : List Nat) (g : FG) (tt : FT) (te : FE) : List D × SS → M (MV × SS) := fun (ds, S1) => if S1.length = n then thenK (lcD vs g tt te ds [] (wipeS vs S1)) (k_fLc_2 vs S1) else stk
@[simp] theorem k_fLc_1_ok {n : Nat} {vs : List Nat} {g : FG} {tt : FT} {te : FE} {ds : List D} {S1 : SS} : k_fLc_1 n vs g tt te (ds, S1) = if S1.length = n then thenK (lcD vs g tt te ds [] (wipeS vs S1)) (k_fLc_2 vs S1) else stk := (rfl)
@[simp] theorem u_fLc {n : Nat} {vs : List Nat} {fi : FI} {g : FG} {tt : FT} {te : FE} {S : SS} : fLc n vs fi g tt te S = thenK (fi S) (k_fLc_1 n vs g tt te) := (rfl)
def k_fGB_2 (vs : List Nat) (S1 : SS) : Bool × SS → M (MV × SS) := fun (bb, S2) => .ok ((.sh, .bool bb), mrg (inP vs) 0 S1 S2)
@[simp] theorem k_fGB_2_ok {vs : List Nat} {S1 S2 : SS} {bb : Bool} : k_fGB_2 vs S1 (bb, S2) = .ok ((.sh, .bool bb), mrg (inP vs) 0 S1 S2) := (rfl)
def k_fGB_1 (st : Bool) (n : Nat) (vs : List Nat) (g : FG) (tt : FT) (te : FE) : List D × SS → M (MV × SS) := fun (ds, S1) => if S1.length = n then thenK (gbD st vs g tt te ds (wipeS vs S1)) (k_fGB_2 vs S1) else stk
@[simp] theorem k_fGB_1_ok {st : Bool} {n : Nat} {vs : List Nat} {g : FG} {tt : FT} {te : FE} {ds : List D} {S1 : SS} : k_fGB_1 st n vs g tt te (ds, S1) = if S1.length = n then thenK (gbD st vs g tt te ds (wipeS vs S1)) (k_fGB_2 vs S1) else stk := (rfl)
@[simp] theorem u_fGB {st : Bool} {n : Nat} {vs : List Nat} {fi : FI} {g : FG} {tt : FT} {te : FE} {S : SS} : fGB st n vs fi g tt te S = thenK (fi S) (k_fGB_1 st n vs g tt te) := (rfl)
def k_fGS_2 (vs : List Nat) (S1 : SS) : Int × SS → M (MV × SS) := fun (ii, S2) => .ok ((.sh, .int ii), mrg (inP vs) 0 S1 S2)
@[simp] theorem k_fGS_2_ok {vs : List Nat} {S1 S2 : SS} {ii : Int} : k_fGS_2 vs S1 (ii, S2) = .ok ((.sh, .int ii), mrg (inP vs) 0 S1 S2) := (rfl)
def k_fGS_1 (n : Nat) (vs : List Nat) (g : FG) (tt : FT) (te : FE) : List D × SS → M (MV × SS) := fun (ds, S1) => if S1.length = n then thenK (gsD vs g tt te ds 0 (wipeS vs S1)) (k_fGS_2 vs S1) else stk
@[simp] theorem k_fGS_1_ok {n : Nat} {vs : List Nat} {g : FG} {tt : FT} {te : FE} {ds : List D} {S1 : SS} : k_fGS_1 n vs g tt te (ds, S1) = if S1.length = n then thenK (gsD vs g tt te ds 0 (wipeS vs S1)) (k_fGS_2 vs S1) else stk := (rfl)
@[simp] theorem u_fGS {n : Nat} {vs : List Nat} {fi : FI} {g : FG} {tt : FT} {te : FE} {S : SS} : fGS n vs fi g tt te S = thenK (fi S) (k_fGS_1 n vs g tt te) := (rfl)
/-- one turn of a comprehension -/
def k_itD_3 (vs : List Nat) : MV × SS → M (Option MV × SS) := fun (r, S3) => .ok (some r, wipeS vs S3)
@[simp] theorem k_itD_3_ok {vs : List Nat} {r : MV} {S3 : SS} : k_itD_3 vs (r, S3) = .ok (some r, wipeS vs S3) := (rfl)
def k_itD_2 (vs : List Nat) (te : FE) : Bool × SS → M (Option MV × SS) := fun (b, S2) => if b then thenK (te S2) (k_itD_3 vs) else .ok (none, wipeS vs S2)
@[simp] theorem k_itD_2_t {vs : List Nat} {te : FE} {S2 : SS} : k_itD_2 vs te (true, S2) = thenK (te S2) (k_itD_3 vs) := (rfl)
@[simp] theorem k_itD_2_f {vs : List Nat} {te : FE} {S2 : SS} : k_itD_2 vs te (false, S2) = .ok (none, wipeS vs S2) := (rfl)
def k_itD_1 (vs : List Nat) (tt : FT) (te : FE) : SS → M (Option MV × SS) := fun S1 => thenK (tt S1) (k_itD_2 vs te)
@[simp] theorem k_itD_1_ok {vs : List Nat} {tt : FT} {te : FE} {S1 : SS} : k_itD_1 vs tt te S1 = thenK (tt S1) (k_itD_2 vs te) := (rfl)
def itD (vs : List Nat) (g : FG) (tt : FT) (te : FE) (d : D) : SS → M (Option MV × SS) := fun S => thenK (g (.sh, d) S) (k_itD_1 vs tt te)
@[simp] theorem u_itD {vs : List Nat} {g : FG} {tt : FT} {te : FE} {d : D} {S : SS} : itD vs g tt te d S = thenK (g (.sh, d) S) (k_itD_1 vs tt te) := (rfl)
def k_runLaw : Fl × SS → M MV := fun (fl, _) => flR fl
@[simp] theorem k_runLaw_ok {fl : Fl} {S : SS} : k_runLaw (fl, S) = flR fl := (rfl)
@[simp] theorem u_runLaw {m : Nat} {f : FS} {ns : List Int} : runLaw m f ns = thenK (f (none :: some (.bx, boxD ns) :: List.replicate m none)) k_runLaw := (rfl)
def k_fMvB_4 (S2 : SS) : MV → M (MV × SS) := fun z => .ok (z, S2)
@[simp] theorem k_fMvB_4_ok {S2 : SS} {z : MV} : k_fMvB_4 S2 z = .ok (z, S2) := (rfl)
def k_fMvB_3 (sem : SemN) (S2 : SS) (r : MV) : List MV → M (MV × SS) := fun rs => thenK (sem (r :: rs)) (k_fMvB_4 S2)
@[simp] theorem k_fMvB_3_ok {sem : SemN} {S2 : SS} {r : MV} {rs : List MV} : k_fMvB_3 sem S2 r rs = thenK (sem (r :: rs)) (k_fMvB_4 S2) := (rfl)
def k_fMvB_2 (sem : SemN) (ts : List Tk) (S2 : SS) : MV → M (MV × SS) := fun r => thenK (tkGets ts S2) (k_fMvB_3 sem S2 r)
@[simp] theorem k_fMvB_2_ok {sem : SemN} {ts : List Tk} {S2 : SS} {r : MV} : k_fMvB_2 sem ts S2 r = thenK (tkGets ts S2) (k_fMvB_3 sem S2 r) := (rfl)
def k_fMvB (sem : SemN) (t : Tk) : List Tk × SS → M (MV × SS) := fun (ts, S2) => thenK (tkGet t S2) (k_fMvB_2 sem ts S2)
@[simp] theorem k_fMvB_ok {sem : SemN} {t : Tk} {ts : List Tk} {S2 : SS} : k_fMvB sem t (ts, S2) = thenK (tkGet t S2) (k_fMvB_2 sem ts S2) := (rfl)
def k_fMv_2 (T : String) (sem : SemN) (f : FA) (t : Tk) (S1 : SS) : MV → M (MV × SS) := fun q => if kindOk T q.2 then thenK (f S1) (k_fMvB sem t) else stk
@[simp] theorem k_fMv_2_ok (T : String) (sem : SemN) (f : FA) (t : Tk) (S1 : SS) {q : MV} : k_fMv_2 T sem f t S1 q = if kindOk T q.2 then thenK (f S1) (k_fMvB sem t) else stk := (rfl)
def k_fMv_1 (T : String) (sem : SemN) (f : FA) : Tk × SS → M (MV × SS) := fun (t, S1) => thenK (tkGet t S1) (k_fMv_2 T sem f t S1)
@[simp] theorem k_fMv_1_ok (T : String) (sem : SemN) (f : FA) {t : Tk} {S1 : SS} : k_fMv_1 T sem f (t, S1) = thenK (tkGet t S1) (k_fMv_2 T sem f t S1) := (rfl)
@[simp] theorem u_fMv {T : String} {sem : SemN} {o : FO} {f : FA} {S : SS} : fMv T sem o f S = thenK (o S) (k_fMv_1 T sem f) := (rfl)
/-! numbers -/
def MuOk (i j : Int) : Prop := (Builtin.Int.intBits i : Int) + (Builtin.Int.intBits j : Int) ≤ 134217728
def DvOk (j : Int) : Prop := j ≠ 0 ∧ j.natAbs.log2 < 9000
section
variable {m n : Md} {i j : Int}
@[simp] theorem mul_ok (h : MuOk i j) : semMul (m, .int i) (n, .int j) = .ok (.sh, .int (i * j)) := if_pos h
@[simp] theorem div_ok (h : DvOk j) : semFdiv (m, .int i) (n, .int j) = .ok (.sh, .int (i.fdiv j)) := if_pos (decide_eq_true (p := j ≠ 0 ∧ j.natAbs.log2 < 9000) h)
@[simp] theorem mod_ok (h : 0 < j) : semMod (m, .int i) (n, .int j) = .ok (.sh, .int (i % j)) := if_pos (decide_eq_true h)
@[simp] theorem add_ok : semAdd (m, .int i) (n, .int j) = .ok (.sh, .int (i + j)) := (rfl)
@[simp] theorem iadd_ok : semIAdd (m, .int i) (n, .int j) = .ok (.sh, .int (i + j)) := (rfl)
@[simp] theorem sub_ok : semSub (m, .int i) (n, .int j) = .ok (.sh, .int (i - j)) := (rfl)
@[simp] theorem gt_ok : semGtI (m, .int i) (n, .int j) = .ok (.sh, .bool (decide (j < i))) := (rfl)
@[simp] theorem ge_ok : semGeI (m, .int i) (n, .int j) = .ok (.sh, .bool (decide (j ≤ i))) := (rfl)
@[simp] theorem le_ok : semLeI (m, .int i) (n, .int j) = .ok (.sh, .bool (decide (i ≤ j))) := (rfl)
@[simp] theorem lt_ok : semLt (m, .int i) (n, .int j) = .ok (.sh, .bool (decide (i < j))) := (rfl)
@[simp] theorem neg_ok : semNeg (m, .int i) = .ok (.sh, .int (-i)) := (rfl)
@[simp] theorem gcd_ok : semGcd [(m, .int i), (n, .int j)] = .ok (.sh, .int (Nat.gcd i.natAbs j.natAbs : Nat)) := (rfl)
@[simp] theorem abs_ok : semAbs [(m, .int i)] = .ok (.sh, .int (if i < 0 then -i else i)) := (rfl)
@[simp] theorem int_ok : semInt1 [(m, .int i)] = .ok (.sh, .int i) := (rfl)
@[simp] theorem min2_ok : semMin2 [(m, .int i), (n, .int j)] = .ok (.sh, .int (min i j)) := by
  have : min i j = if j < i then j else i := by split <;> omega
  rw [this]; rfl
@[simp] theorem max2_ok : semMax2 [(m, .int i), (n, .int j)] = .ok (.sh, .int (max i j)) := by
  have : max i j = if j > i then j else i := by split <;> omega
  rw [this]; rfl
@[simp] theorem give_int : giveR (m, .int i) = .ok (.sh, .int i) := by
  show (if m.gives = true then Except.ok (Md.sh, PyData.int i) else if flatD (.int i) = true then Except.ok (Md.sh, PyData.int i) else stk) = _
  split <;> rfl
@[simp] theorem give_sh {d : D} : giveR (.sh, d) = .ok (.sh, d) := (rfl)
@[simp] theorem give_ow {d : D} : giveR (.ow .sh, d) = .ok (.sh, d) := (rfl)
end
/-! a[i] -/
@[simp] theorem ix0 {m : Md} {a : D} {l : List D} : semIx (.sh, .tuple (a :: l)) (m, .int 0) = .ok (.sh, a) := by
  unfold semIx itemOf
  simp [L2.atI, L2.ixN]
@[simp] theorem ix1 {m : Md} {a b : D} {l : List D} : semIx (.sh, .tuple (a :: b :: l)) (m, .int 1) = .ok (.sh, b) := by
  unfold semIx itemOf
  have : (1 : Int) < (l.length : Int) + 1 + 1 := by omega
  simp [L2.atI, L2.ixN, this]
theorem atI_nat {α : Type} {l : List α} {i : Nat} : L2.atI l (i : Int) = l[i]? := by
  unfold L2.atI L2.ixN
  rw [if_pos (by omega)]
  by_cases h : i < l.length
  · rw [if_pos (by omega)]; simp
  · rw [if_neg (by omega)]; simp; omega
theorem ix_tup {m : Md} {l : List D} {i : Nat} (h : i < l.length) : semIx (.sh, .tuple l) (m, .int i) = .ok (.sh, l[i]) := by
  unfold semIx itemOf
  simp only [atI_nat]
  rw [List.getElem?_eq_getElem h]
theorem ix_lst {m : Md} {l : List D} {i : Nat} (h : i < l.length) : semIx (.sh, .list l) (m, .int i) = .ok (.sh, l[i]) := by
  unfold semIx itemOf
  simp only [atI_nat]
  rw [List.getElem?_eq_getElem h]
theorem ix_ow {m : Md} {l : List D} {i : Nat} (h : i < l.length) : semIx (.ow .sh, .list l) (m, .int i) = .ok (.sh, l[i]) := by
  unfold semIx itemOf
  simp only [atI_nat]
  rw [List.getElem?_eq_getElem h]
theorem ix_tup1 {m : Md} {l : List D} {i : Nat} (h : i + 1 < l.length) : semIx (.sh, .tuple l) (m, .int ((i : Int) + 1)) = .ok (.sh, l[i + 1]) := ix_tup (i := i + 1) h
theorem ix_lst1 {m : Md} {l : List D} {i : Nat} (h : i + 1 < l.length) : semIx (.sh, .list l) (m, .int ((i : Int) + 1)) = .ok (.sh, l[i + 1]) := ix_lst (i := i + 1) h
@[simp] theorem ix_box1 {m : Md} {a b c : D} : semIx (.bx, .list [a, b, c]) (m, .int 1) = .ok (.sh, b) := (rfl)
@[simp] theorem ix_box2 {m : Md} {a b c : D} : semIx (.bx, .list [a, b, c]) (m, .int 2) = .ok (.sh, c) := (rfl)
/-! displays -/
theorem small_line {n : Nat} (h : n ≤ 1000000) : n ≤ sizeLine := by
  have : 1000000 ≤ sizeLine := by decide
  omega
theorem lt_line {n : Nat} (h : n < 1000000) : n < sizeLine := by
  have : 1000000 ≤ sizeLine := by decide
  omega
@[simp] theorem tup0_ok : semTup [] = .ok (.sh, .tuple []) := (rfl)
@[simp] theorem tup1_ok {a : D} : semTup [(.sh, a)] = .ok (.sh, .tuple [a]) := if_pos (e := (stk : M MV)) (show 1 ≤ sizeLine by decide)
@[simp] theorem tup2_ok {a b : D} : semTup [(.sh, a), (.sh, b)] = .ok (.sh, .tuple [a, b]) := if_pos (e := (stk : M MV)) (show 2 ≤ sizeLine by decide)
@[simp] theorem tup3_ok {a b c : D} : semTup [(.sh, a), (.sh, b), (.sh, c)] = .ok (.sh, .tuple [a, b, c]) := if_pos (e := (stk : M MV)) (show 3 ≤ sizeLine by decide)
@[simp] theorem tup4_ok {a b c d : D} : semTup [(.sh, a), (.sh, b), (.sh, c), (.sh, d)] = .ok (.sh, .tuple [a, b, c, d]) := if_pos (e := (stk : M MV)) (show 4 ≤ sizeLine by decide)
theorem allSh_map (ds : List D) : allSh (ds.map fun d => (.sh, d)) = .ok ds := by
  induction ds with
  | nil => rfl
  | cons d ds ih =>
    show (allSh (ds.map fun d => (.sh, d)) >>= _) = _
    rw [ih]; rfl
theorem lst_ok {ds : List D} {rs : List MV} (e : rs = ds.map fun d => (.sh, d)) (h : ds.length ≤ 1000000) : semLst rs = .ok (.ow .sh, .list ds) := by
  subst e
  show (allSh (ds.map fun d => (.sh, d)) >>= _) = _
  rw [allSh_map, ex_bind, if_pos (small_line h)]; rfl
@[simp] theorem lst0_ok : semLst [] = .ok (.ow .sh, .list []) := (rfl)
@[simp] theorem lst1_ok {a : D} : semLst [(.sh, a)] = .ok (.ow .sh, .list [a]) := if_pos (e := (stk : M MV)) (show 1 ≤ sizeLine by decide)
@[simp] theorem lst2_ok {a b : D} : semLst [(.sh, a), (.sh, b)] = .ok (.ow .sh, .list [a, b]) := if_pos (e := (stk : M MV)) (show 2 ≤ sizeLine by decide)
@[simp] theorem lst3_ok {a b c : D} : semLst [(.sh, a), (.sh, b), (.sh, c)] = .ok (.ow .sh, .list [a, b, c]) := if_pos (e := (stk : M MV)) (show 3 ≤ sizeLine by decide)
@[simp] theorem len_tup {m : Md} {ds : List D} : semLen [(m, .tuple ds)] = .ok (.sh, .int ds.length) := (rfl)
@[simp] theorem len_lst {m : Md} {ds : List D} : semLen [(m, .list ds)] = .ok (.sh, .int ds.length) := (rfl)
@[simp] theorem nd_int {i : Int} : noDic (.int i) = true := (rfl)
@[simp] theorem nd_bool {b : Bool} : noDic (.bool b) = true := (rfl)
@[simp] theorem nd_str {x : Str} : noDic (.str x) = true := (rfl)
@[simp] theorem nd_none : noDic .none = true := (rfl)
@[simp] theorem nd_tup {ds : List D} : noDic (.tuple ds) = true := (rfl)
@[simp] theorem nd_lst {ds : List D} : noDic (.list ds) = true := (rfl)
@[simp] theorem isT_ok {T : PT5} {m : Md} {d : D} (h : noDic d = true) : semIsT T (m, d) = .ok (.sh, .bool (T.is d)) := if_pos h
@[simp] theorem lst4_ok {a b c d : D} : semLst [(.sh, a), (.sh, b), (.sh, c), (.sh, d)] = .ok (.ow .sh, .list [a, b, c, d]) := if_pos (e := (stk : M MV)) (show 4 ≤ sizeLine by decide)
@[simp] theorem lst5_ok {a b c d e : D} : semLst [(.sh, a), (.sh, b), (.sh, c), (.sh, d), (.sh, e)] = .ok (.ow .sh, .list [a, b, c, d, e]) := if_pos (e := (stk : M MV)) (show 5 ≤ sizeLine by decide)
@[simp] theorem lst6_ok {a b c d e f : D} : semLst [(.sh, a), (.sh, b), (.sh, c), (.sh, d), (.sh, e), (.sh, f)] = .ok (.ow .sh, .list [a, b, c, d, e, f]) := if_pos (e := (stk : M MV)) (show 6 ≤ sizeLine by decide)
@[simp] theorem lst7_ok {a b c d e f g : D} : semLst [(.sh, a), (.sh, b), (.sh, c), (.sh, d), (.sh, e), (.sh, f), (.sh, g)] = .ok (.ow .sh, .list [a, b, c, d, e, f, g]) := if_pos (e := (stk : M MV)) (show 7 ≤ sizeLine by decide)
@[simp] theorem lst8_ok {a b c d e f g h : D} : semLst [(.sh, a), (.sh, b), (.sh, c), (.sh, d), (.sh, e), (.sh, f), (.sh, g), (.sh, h)] = .ok (.ow .sh, .list [a, b, c, d, e, f, g, h]) := if_pos (e := (stk : M MV)) (show 8 ≤ sizeLine by decide)
@[simp] theorem lst9_ok {a b c d e f g h i : D} : semLst [(.sh, a), (.sh, b), (.sh, c), (.sh, d), (.sh, e), (.sh, f), (.sh, g), (.sh, h), (.sh, i)] = .ok (.ow .sh, .list [a, b, c, d, e, f, g, h, i]) := if_pos (e := (stk : M MV)) (show 9 ≤ sizeLine by decide)
@[simp] theorem lst10_ok {a b c d e f g h i j : D} : semLst [(.sh, a), (.sh, b), (.sh, c), (.sh, d), (.sh, e), (.sh, f), (.sh, g), (.sh, h), (.sh, i), (.sh, j)] = .ok (.ow .sh, .list [a, b, c, d, e, f, g, h, i, j]) := if_pos (e := (stk : M MV)) (show 10 ≤ sizeLine by decide)
@[simp] theorem lst11_ok {a b c d e f g h i j k : D} : semLst [(.sh, a), (.sh, b), (.sh, c), (.sh, d), (.sh, e), (.sh, f), (.sh, g), (.sh, h), (.sh, i), (.sh, j), (.sh, k)] = .ok (.ow .sh, .list [a, b, c, d, e, f, g, h, i, j, k]) := if_pos (e := (stk : M MV)) (show 11 ≤ sizeLine by decide)
@[simp] theorem lst12_ok {a b c d e f g h i j k l : D} : semLst [(.sh, a), (.sh, b), (.sh, c), (.sh, d), (.sh, e), (.sh, f), (.sh, g), (.sh, h), (.sh, i), (.sh, j), (.sh, k), (.sh, l)] = .ok (.ow .sh, .list [a, b, c, d, e, f, g, h, i, j, k, l]) := if_pos (e := (stk : M MV)) (show 12 ≤ sizeLine by decide)
@[simp] theorem lst13_ok {a b c d e f g h i j k l m : D} : semLst [(.sh, a), (.sh, b), (.sh, c), (.sh, d), (.sh, e), (.sh, f), (.sh, g), (.sh, h), (.sh, i), (.sh, j), (.sh, k), (.sh, l), (.sh, m)] = .ok (.ow .sh, .list [a, b, c, d, e, f, g, h, i, j, k, l, m]) := if_pos (e := (stk : M MV)) (show 13 ≤ sizeLine by decide)
@[simp] theorem tup5_ok {a b c d e : D} : semTup [(.sh, a), (.sh, b), (.sh, c), (.sh, d), (.sh, e)] = .ok (.sh, .tuple [a, b, c, d, e]) := if_pos (e := (stk : M MV)) (show 5 ≤ sizeLine by decide)
@[simp] theorem tup6_ok {a b c d e f : D} : semTup [(.sh, a), (.sh, b), (.sh, c), (.sh, d), (.sh, e), (.sh, f)] = .ok (.sh, .tuple [a, b, c, d, e, f]) := if_pos (e := (stk : M MV)) (show 6 ≤ sizeLine by decide)
@[simp] theorem tup7_ok {a b c d e f g : D} : semTup [(.sh, a), (.sh, b), (.sh, c), (.sh, d), (.sh, e), (.sh, f), (.sh, g)] = .ok (.sh, .tuple [a, b, c, d, e, f, g]) := if_pos (e := (stk : M MV)) (show 7 ≤ sizeLine by decide)
@[simp] theorem pow_ok {m n : Md} {i j : Int} (h : 0 ≤ j ∧ j ≤ 1000000 ∧ i.natAbs < 2 ^ 64) : semPow (m, .int i) (n, .int j) = .ok (.sh, .int (i ^ j.toNat)) := if_pos (decide_eq_true (p := 0 ≤ j ∧ j ≤ 1000000 ∧ i.natAbs < 2 ^ 64) h)
theorem pick_ow {l : List D} {i : Int} (h0 : 0 ≤ i) (h1 : i < l.length) : ∃ d ∈ l, ∀ m, semIx (.ow .sh, .list l) (m, .int i) = .ok (.sh, d) := by
  obtain ⟨n, rfl⟩ := Int.eq_ofNat_of_zero_le h0
  have h : n < l.length := by omega
  exact ⟨l[n], List.getElem_mem h, fun m => ix_ow h⟩
theorem pick_tup {l : List D} {i : Int} (h0 : 0 ≤ i) (h1 : i < l.length) : ∃ d ∈ l, ∀ m, semIx (.sh, .tuple l) (m, .int i) = .ok (.sh, d) := by
  obtain ⟨n, rfl⟩ := Int.eq_ofNat_of_zero_le h0
  have h : n < l.length := by omega
  exact ⟨l[n], List.getElem_mem h, fun m => ix_tup h⟩
theorem pick_lst {l : List D} {i : Int} (h0 : 0 ≤ i) (h1 : i < l.length) : ∃ d ∈ l, ∀ m, semIx (.sh, .list l) (m, .int i) = .ok (.sh, d) := by
  obtain ⟨n, rfl⟩ := Int.eq_ofNat_of_zero_le h0
  have h : n < l.length := by omega
  exact ⟨l[n], List.getElem_mem h, fun m => ix_lst h⟩
@[simp] theorem cut_tup {ds : List D} {lo hi : Option Int} : cutOf (.sh, .tuple ds) lo hi = .ok (.sh, .tuple (cutD ds lo hi)) := (rfl)
@[simp] theorem cut_ow {ds : List D} {lo hi : Option Int} : cutOf (.ow .sh, .list ds) lo hi = .ok (.ow .sh, .list (cutD ds lo hi)) := (rfl)
@[simp] theorem cut_lst {ds : List D} {lo hi : Option Int} : cutOf (.sh, .list ds) lo hi = .ok (.ow .sh, .list (cutD ds lo hi)) := (rfl)
@[simp] theorem rev_tup {ds : List D} : revOf (.sh, .tuple ds) = .ok (.sh, .tuple ds.reverse) := (rfl)
@[simp] theorem rev_ow {ds : List D} : revOf (.ow .sh, .list ds) = .ok (.ow .sh, .list ds.reverse) := (rfl)
@[simp] theorem rev_lst {ds : List D} : revOf (.sh, .list ds) = .ok (.ow .sh, .list ds.reverse) := (rfl)
theorem mem_cutD {ds : List D} {lo hi : Option Int} {d : D} (h : d ∈ cutD ds lo hi) : d ∈ ds := List.mem_of_mem_drop (List.mem_of_mem_take h)
theorem cut_to {α : Type} (l : List α) (k : Nat) : cutD l none (some (k : Int)) = l.take k := by
  unfold cutD
  rw [HT.sIx_none, List.drop_zero, Nat.sub_zero, HT.sIx_nat]
  by_cases h : k ≤ l.length
  · rw [Nat.min_eq_left h]
  · rw [Nat.min_eq_right (by omega), List.take_length, List.take_of_length_le (by omega)]
theorem cut_from {α : Type} (l : List α) (k : Nat) : cutD l (some (k : Int)) none = l.drop k := by
  unfold cutD
  rw [HT.sIx_none, HT.sIx_nat]
  by_cases h : k ≤ l.length
  · rw [Nat.min_eq_left h, List.take_of_length_le (by rw [List.length_drop]; omega)]
  · rw [Nat.min_eq_right (by omega), List.drop_length, List.drop_eq_nil_of_le (by omega)]
    simp
theorem len_cutD {ds : List D} {lo hi : Option Int} : (cutD ds lo hi).length ≤ ds.length := by
  unfold cutD
  rw [List.length_take, List.length_drop]
  omega
theorem add_tup {xs ys : List D} (h : xs.length + ys.length ≤ 1000000) : semAdd (.sh, .tuple xs) (.sh, .tuple ys) = .ok (.sh, .tuple (xs ++ ys)) := if_pos (small_line h)
theorem add_ow {xs ys : List D} (h : xs.length + ys.length ≤ 1000000) : semAdd (.ow .sh, .list xs) (.ow .sh, .list ys) = .ok (.ow .sh, .list (xs ++ ys)) := by
  show (kids (.ow .sh, .list xs) >>= fun xs => kids (.ow .sh, .list ys) >>= fun ys => if xs.length + ys.length ≤ sizeLine then (Except.ok (Md.ow .sh, PyData.list (xs ++ ys)) : M MV) else stk) = _
  show (if xs.length + ys.length ≤ sizeLine then (Except.ok (Md.ow .sh, PyData.list (xs ++ ys)) : M MV) else stk) = _
  rw [if_pos (small_line h)]
theorem str_ok {m : Md} {i : Int} (h : i.natAbs < 2 ^ 1900) : semStr1 [(m, .int i)] = .ok (.sh, .str (Str.ofString i.repr)) := if_pos (by
  by_cases h0 : i.natAbs = 0
  · rw [h0]; decide
  · have := (Nat.log2_lt h0).mpr h
    omega)
@[simp] theorem give_str {m : Md} {x : Str} : giveR (m, .str x) = .ok (.sh, .str x) := by
  show (if m.gives = true then Except.ok (Md.sh, PyData.str x) else if flatD (.str x) = true then Except.ok (Md.sh, PyData.str x) else stk) = _
  split <;> rfl
@[simp] theorem give_bool {m : Md} {x : Bool} : giveR (m, .bool x) = .ok (.sh, .bool x) := by
  show (if m.gives = true then Except.ok (Md.sh, PyData.bool x) else if flatD (.bool x) = true then Except.ok (Md.sh, PyData.bool x) else stk) = _
  split <;> rfl
/-! == -/
@[simp] theorem shaped_int (i : Int) : SeqAt.shaped (.int i) = true := by
  simp [SeqAt.shaped, PyData.canLay0, PyData.depth]
@[simp] theorem shaped_bl (b : Bool) : SeqAt.shaped (.bool b) = true := by
  simp [SeqAt.shaped, PyData.canLay0, PyData.depth]
@[simp] theorem eq_int {m n : Md} {i j : Int} : semEq (m, .int i) (n, .int j) = .ok (.sh, .bool (decide (i = j))) := by
  unfold semEq eqOk
  simp [shaped_int, PyData.eqv]
  rfl
@[simp] theorem ne_int {m n : Md} {i j : Int} : semNe (m, .int i) (n, .int j) = .ok (.sh, .bool (!decide (i = j))) := by
  unfold semNe eqOk
  simp [shaped_int, PyData.eqv]
  rfl
@[simp] theorem eq_bl {m n : Md} {i j : Bool} : semEq (m, .bool i) (n, .bool j) = .ok (.sh, .bool (i == j)) := by
  unfold semEq eqOk
  cases i <;> cases j <;> simp [shaped_bl, PyData.eqv]
/-! all, any, sum, tuple of lists in hand -/
theorem bools_map (ds : List D) (f : D → Bool) : boolsOf (ds.map fun d => .bool (f d)) = .ok (ds.map f) := by
  induction ds with
  | nil => rfl
  | cons d ds ih =>
    show (boolsOf (ds.map fun d => .bool (f d)) >>= _) = _
    rw [ih]
    rfl
theorem bools_mapT {α : Type} (ds : List α) (f : α → Bool) : boolsOf (ds.map fun d => .bool (f d)) = .ok (ds.map f) := by
  induction ds with
  | nil => rfl
  | cons d ds ih =>
    show (boolsOf (ds.map fun d => .bool (f d)) >>= _) = _
    rw [ih]
    rfl
theorem all_map {α : Type} {ds : List α} {f : α → Bool} : semAll [(.ow .sh, .list (ds.map fun d => .bool (f d)))] = .ok (.sh, .bool (ds.all f)) := by
  show (boolsOf (ds.map fun d => PyData.bool (f d)) >>= fun bs => pure ((.sh, .bool (bs.all id)) : MV)) = _
  rw [bools_mapT]
  show Except.ok ((Md.sh, PyData.bool ((ds.map f).all id)) : MV) = _
  rw [List.all_map]
  rfl
theorem any_map {α : Type} {ds : List α} {f : α → Bool} : semAny [(.ow .sh, .list (ds.map fun d => .bool (f d)))] = .ok (.sh, .bool (ds.any f)) := by
  show (boolsOf (ds.map fun d => PyData.bool (f d)) >>= fun bs => pure ((.sh, .bool (bs.any id)) : MV)) = _
  rw [bools_mapT]
  show Except.ok ((Md.sh, PyData.bool ((ds.map f).any id)) : MV) = _
  rw [List.any_map]
  rfl
@[simp] theorem tupOf_ow {ds : List D} : semTupOf [(.ow .sh, .list ds)] = .ok (.sh, .tuple ds) := (rfl)
@[simp] theorem tupOf_sh {ds : List D} : semTupOf [(.sh, .list ds)] = .ok (.sh, .tuple ds) := (rfl)
@[simp] theorem listOf_ow {ds : List D} : semListOf [(.ow .sh, .list ds)] = .ok (.ow .sh, .list ds) := (rfl)
@[simp] theorem listOf_sh {ds : List D} : semListOf [(.sh, .list ds)] = .ok (.ow .sh, .list ds) := (rfl)
@[simp] theorem listOf_tup {ds : List D} : semListOf [(.sh, .tuple ds)] = .ok (.ow .sh, .list ds) := (rfl)
theorem append_ok {ds : List D} {d : D} (h : ds.length < 1000000) : semAppend ds [(.sh, d)] = .ok (ds ++ [d], (.sh, .none)) := if_pos (by
  have : 1000000 ≤ sizeLine := by decide
  omega)
/-! ranges -/
theorem small_ok {n : Nat} (h : n ≤ 4000) : small62 (n : Int) = true := by
  have h1 : (0 : Int) ≤ n := Int.natCast_nonneg n
  have h2 : (n : Int) ≤ 4000 := by omega
  unfold small62
  rw [Bool.and_eq_true]
  exact ⟨decide_eq_true (Int.le_trans (by decide) h1), decide_eq_true (Int.lt_of_le_of_lt h2 (by decide))⟩
theorem rng_eq (m : Md) (j : Int) : onD rng1 [(m, .int j)] = if small62 j = true then (Except.ok (rangeD 0 1 j.toNat) : M (List D)) else stk := (rfl)
def natsD (n : Nat) : List D := (List.range n).map fun i => PyData.int (i : Nat)
theorem rangeD_nat (n : Nat) : rangeD 0 1 n = natsD n := by
  unfold rangeD natsD
  refine List.map_congr_left fun i _ => ?_
  rw [Int.zero_add, Int.mul_one]
theorem rng_ok {m : Md} {n : Nat} (h : small62 (n : Int) = true) : onD rng1 [(m, .int (n : Int))] = .ok (natsD n) := by
  rw [rng_eq, h, Int.toNat_natCast, rangeD_nat]
  rfl
theorem rng_ok4 {m : Md} {n : Nat} (h : n ≤ 4000) : onD rng1 [(m, .int (n : Int))] = .ok (natsD n) := rng_ok (small_ok h)
/-! data whose numbers are bounded -/
mutual
def bdD (n : Nat) : D → Prop
  | .int i => i.natAbs < 2 ^ n
  | .tuple ds => bdAll n ds
  | .list ds => bdAll n ds
  | _ => True
def bdAll (n : Nat) : List D → Prop
  | [] => True
  | d :: ds => bdD n d ∧ bdAll n ds
end
theorem bdAll_iff {n : Nat} : ∀ {ds : List D}, bdAll n ds ↔ ∀ d ∈ ds, bdD n d
  | [] => by simp [bdAll]
  | d :: ds => by simp [bdAll, bdAll_iff (ds := ds)]
@[simp] theorem bdD_int {n : Nat} {i : Int} : bdD n (.int i) = (i.natAbs < 2 ^ n) := by simp [bdD]
@[simp] theorem bdD_tup {n : Nat} {ds : List D} : bdD n (.tuple ds) = bdAll n ds := by simp [bdD]
@[simp] theorem bdD_lst {n : Nat} {ds : List D} : bdD n (.list ds) = bdAll n ds := by simp [bdD]
/-! loops -/
theorem wipe_eq {vs : List Nat} {S : SS} : wipeS vs S = msk (fun i => !inP vs i) 0 S := (rfl)
@[simp] theorem msk0 {p : Nat → Bool} {k : Nat} : msk p k [] = [] := (rfl)
@[simp] theorem msk1 {p : Nat → Bool} {k : Nat} {x : Option MV} {S : SS} : msk p k (x :: S) = (bif p k then x else none) :: msk p (k + 1) S := (rfl)
@[simp] theorem mrg0 {p : Nat → Bool} {k : Nat} : mrg p k [] [] = [] := (rfl)
@[simp] theorem mrg1 {p : Nat → Bool} {k : Nat} {x y : Option MV} {S T : SS} : mrg p k (x :: S) (y :: T) = (bif p k then x else y) :: mrg p (k + 1) S T := (rfl)
theorem it_ok {vs : List Nat} {g : FG} {tt : FT} {te : FE} {d : D} {S S' : SS} {o : Option MV} (h : itD vs g tt te d S = .ok (o, S')) : ∃ S1 b S2, g (.sh, d) S = .ok S1 ∧ tt S1 = .ok (b, S2) ∧ ((b = true ∧ ∃ r S3, te S2 = .ok (r, S3) ∧ o = some r ∧ S' = wipeS vs S3) ∨ (b = false ∧ o = none ∧ S' = wipeS vs S2)) := by
  obtain ⟨S1, e1, h⟩ := bind_ok h
  obtain ⟨⟨b, S2⟩, e2, h⟩ := bind_ok h
  refine ⟨S1, b, S2, e1, e2, ?_⟩
  cases b with
  | true =>
    obtain ⟨⟨r, S3⟩, e3, h⟩ := bind_ok h
    cases h
    exact .inl ⟨rfl, r, S3, e3, rfl, rfl⟩
  | false =>
    cases h
    exact .inr ⟨rfl, rfl, rfl⟩
section
variable {vs : List Nat} {g : FG} {tt : FT} {te : FE}
/-- any, all: what stays as it is -/
theorem gb_all {p f : D → Bool} {S0 : SS} {m : D → Md} : ∀ {ds : List D}, (∀ d ∈ ds, itD vs g tt te d S0 = .ok (if p d then some (m d, .bool (f d)) else none, S0)) → gbD false vs g tt te ds S0 = .ok (ds.all fun d => !p d || f d, S0)
  | [], _ => rfl
  | d :: ds, h => by
    obtain ⟨S1, b, S2, e1, e2, h3⟩ := it_ok (h d List.mem_cons_self)
    rw [gbD, e1, ex_bind, e2, ex_bind]
    have ih := gb_all (p := p) (f := f) (m := m) (ds := ds) fun x hx => h x (List.mem_cons_of_mem _ hx)
    rcases h3 with ⟨rfl, r, S3, e3, e4, e5⟩ | ⟨rfl, e4, e5⟩
    · cases hp : p d with
      | false => rw [hp] at e4; cases e4
      | true =>
        rw [hp] at e4; cases e4
        dsimp only
        rw [if_pos rfl, e3, ex_bind]
        dsimp only
        rw [← e5]
        cases hf : f d with
        | false => rw [if_pos rfl]; simp [hf, hp]
        | true => rw [if_neg (by simp), ih]; simp [hf, hp]
    · cases hp : p d with
      | true => rw [hp] at e4; cases e4
      | false =>
        dsimp only
        rw [if_neg (by simp), ← e5, ih]; simp [hp]
theorem gb_any {p f : D → Bool} {S0 : SS} {m : D → Md} : ∀ {ds : List D}, (∀ d ∈ ds, itD vs g tt te d S0 = .ok (if p d then some (m d, .bool (f d)) else none, S0)) → gbD true vs g tt te ds S0 = .ok (ds.any fun d => p d && f d, S0)
  | [], _ => rfl
  | d :: ds, h => by
    obtain ⟨S1, b, S2, e1, e2, h3⟩ := it_ok (h d List.mem_cons_self)
    rw [gbD, e1, ex_bind, e2, ex_bind]
    have ih := gb_any (p := p) (f := f) (m := m) (ds := ds) fun x hx => h x (List.mem_cons_of_mem _ hx)
    rcases h3 with ⟨rfl, r, S3, e3, e4, e5⟩ | ⟨rfl, e4, e5⟩
    · cases hp : p d with
      | false => rw [hp] at e4; cases e4
      | true =>
        rw [hp] at e4; cases e4
        dsimp only
        rw [if_pos rfl, e3, ex_bind]
        dsimp only
        rw [← e5]
        cases hf : f d with
        | true => rw [if_pos rfl]; simp [hf, hp]
        | false => rw [if_neg (by simp), ih]; simp [hf, hp]
    · cases hp : p d with
      | true => rw [hp] at e4; cases e4
      | false =>
        dsimp only
        rw [if_neg (by simp), ← e5, ih]; simp [hp]
/-- a comprehension whose turns leave the state as it is -/
theorem lc_mapf {p : D → Bool} {f : D → D} {S0 : SS} {r : D → MV} : ∀ {ds acc : List D}, (∀ d ∈ ds, itD vs g tt te d S0 = .ok (if p d then some (r d) else none, S0) ∧ (p d = true → giveR (r d) = .ok (.sh, f d))) → acc.length + ds.length ≤ 1000000 → lcD vs g tt te ds acc S0 = .ok (acc ++ (ds.filter p).map f, S0)
  | [], acc, _, _ => by simp [lcD]
  | d :: ds, acc, h, hs => by
    obtain ⟨h0, hg⟩ := h d List.mem_cons_self
    obtain ⟨S1, b, S2, e1, e2, h3⟩ := it_ok h0
    rw [lcD, e1, ex_bind, e2, ex_bind]
    simp only [List.length_cons] at hs
    rcases h3 with ⟨rfl, q, S3, e3, e4, e5⟩ | ⟨rfl, e4, e5⟩
    · cases hp : p d with
      | false => rw [hp] at e4; cases e4
      | true =>
        rw [hp] at e4; cases e4
        dsimp only
        rw [if_pos rfl, e3, ex_bind, hg hp, ex_bind, if_pos (by have : 1000000 ≤ sizeLine := by decide
                                                                omega), ← e5]
        rw [lc_mapf (ds := ds) (fun x hx => h x (List.mem_cons_of_mem _ hx)) (by simp; omega)]
        simp [hp]
    · cases hp : p d with
      | true => rw [hp] at e4; cases e4
      | false =>
        dsimp only
        rw [if_neg (by simp), ← e5, lc_mapf (ds := ds) (fun x hx => h x (List.mem_cons_of_mem _ hx)) (by omega)]
        simp [hp]
/-- .. whose turns keep something -/
theorem lc_inv {Inv : SS → Prop} {P : D → D → Prop} : ∀ {ds acc : List D} {S : SS}, (∀ d ∈ ds, ∀ S, Inv S → ∃ r S' v, itD vs g tt te d S = .ok (some r, S') ∧ Inv S' ∧ giveR r = .ok (.sh, v) ∧ P d v) → Inv S → acc.length + ds.length ≤ 1000000 → ∃ us S', lcD vs g tt te ds acc S = .ok (acc ++ us, S') ∧ Inv S' ∧ us.length = ds.length ∧ ∀ u ∈ us, ∃ d ∈ ds, P d u
  | [], acc, S, _, hi, _ => ⟨[], S, by simp [lcD], hi, rfl, by simp⟩
  | d :: ds, acc, S, h, hi, hs => by
    obtain ⟨r, S', v, h0, hi', hg, hP⟩ := h d List.mem_cons_self S hi
    obtain ⟨S1, b, S2, e1, e2, h3⟩ := it_ok h0
    simp only [List.length_cons] at hs
    rcases h3 with ⟨rfl, q, S3, e3, e4, e5⟩ | ⟨rfl, e4, e5⟩
    · cases e4
      obtain ⟨us, S4, e6, h6, h7, h8⟩ := lc_inv (Inv := Inv) (P := P) (ds := ds) (acc := acc ++ [v]) (S := S') (fun x hx => h x (List.mem_cons_of_mem _ hx)) hi' (by simp; omega)
      refine ⟨v :: us, S4, ?_, h6, by simp [h7], ?_⟩
      · rw [lcD, e1, ex_bind, e2, ex_bind]
        dsimp only
        rw [if_pos rfl, e3, ex_bind, hg, ex_bind, if_pos (by have : 1000000 ≤ sizeLine := by decide
                                                             omega), ← e5, e6]
        simp
      · intro u hu
        rcases List.mem_cons.mp hu with rfl | hu
        · exact ⟨d, List.mem_cons_self, hP⟩
        · obtain ⟨d', h9, h10⟩ := h8 u hu
          exact ⟨d', List.mem_cons_of_mem _ h9, h10⟩
    · cases e4
/-- a sum -/
theorem gs_sum {p : D → Bool} {f : D → Int} {S0 : SS} {m : D → Md} : ∀ {ds : List D} {acc : Int}, (∀ d ∈ ds, itD vs g tt te d S0 = .ok (if p d then some (m d, .int (f d)) else none, S0)) → gsD vs g tt te ds acc S0 = .ok (acc + ((ds.filter p).map f).sum, S0)
  | [], acc, _ => by simp [gsD]
  | d :: ds, acc, h => by
    obtain ⟨S1, b, S2, e1, e2, h3⟩ := it_ok (h d List.mem_cons_self)
    rw [gsD, e1, ex_bind, e2, ex_bind]
    rcases h3 with ⟨rfl, q, S3, e3, e4, e5⟩ | ⟨rfl, e4, e5⟩
    · cases hp : p d with
      | false => rw [hp] at e4; cases e4
      | true =>
        rw [hp] at e4; cases e4
        dsimp only
        rw [if_pos rfl, e3, ex_bind, ← e5]
        dsimp only
        rw [gs_sum (ds := ds) fun x hx => h x (List.mem_cons_of_mem _ hx)]
        simp [hp, Int.add_assoc]
    · cases hp : p d with
      | true => rw [hp] at e4; cases e4
      | false =>
        dsimp only
        rw [if_neg (by simp), ← e5, gs_sum (ds := ds) fun x hx => h x (List.mem_cons_of_mem _ hx)]
        simp [hp]
end
@[simp] theorem is_int_int {i : Int} : PT5.is .int (.int i) = true := (rfl)
@[simp] theorem is_int_bool {b : Bool} : PT5.is .int (.bool b) = true := (rfl)
@[simp] theorem is_int_str {x : Str} : PT5.is .int (.str x) = false := (rfl)
@[simp] theorem is_int_tuple {ds : List D} : PT5.is .int (.tuple ds) = false := (rfl)
@[simp] theorem is_int_list {ds : List D} : PT5.is .int (.list ds) = false := (rfl)
@[simp] theorem is_int_dict {kv : List (D × D)} : PT5.is .int (.dict kv) = false := (rfl)
@[simp] theorem is_int_none  : PT5.is .int .none = false := (rfl)
@[simp] theorem is_bool_int {i : Int} : PT5.is .bool (.int i) = false := (rfl)
@[simp] theorem is_bool_bool {b : Bool} : PT5.is .bool (.bool b) = true := (rfl)
@[simp] theorem is_bool_str {x : Str} : PT5.is .bool (.str x) = false := (rfl)
@[simp] theorem is_bool_tuple {ds : List D} : PT5.is .bool (.tuple ds) = false := (rfl)
@[simp] theorem is_bool_list {ds : List D} : PT5.is .bool (.list ds) = false := (rfl)
@[simp] theorem is_bool_dict {kv : List (D × D)} : PT5.is .bool (.dict kv) = false := (rfl)
@[simp] theorem is_bool_none  : PT5.is .bool .none = false := (rfl)
@[simp] theorem is_str_int {i : Int} : PT5.is .str (.int i) = false := (rfl)
@[simp] theorem is_str_bool {b : Bool} : PT5.is .str (.bool b) = false := (rfl)
@[simp] theorem is_str_str {x : Str} : PT5.is .str (.str x) = true := (rfl)
@[simp] theorem is_str_tuple {ds : List D} : PT5.is .str (.tuple ds) = false := (rfl)
@[simp] theorem is_str_list {ds : List D} : PT5.is .str (.list ds) = false := (rfl)
@[simp] theorem is_str_dict {kv : List (D × D)} : PT5.is .str (.dict kv) = false := (rfl)
@[simp] theorem is_str_none  : PT5.is .str .none = false := (rfl)
@[simp] theorem is_tuple_int {i : Int} : PT5.is .tuple (.int i) = false := (rfl)
@[simp] theorem is_tuple_bool {b : Bool} : PT5.is .tuple (.bool b) = false := (rfl)
@[simp] theorem is_tuple_str {x : Str} : PT5.is .tuple (.str x) = false := (rfl)
@[simp] theorem is_tuple_tuple {ds : List D} : PT5.is .tuple (.tuple ds) = true := (rfl)
@[simp] theorem is_tuple_list {ds : List D} : PT5.is .tuple (.list ds) = false := (rfl)
@[simp] theorem is_tuple_dict {kv : List (D × D)} : PT5.is .tuple (.dict kv) = false := (rfl)
@[simp] theorem is_tuple_none  : PT5.is .tuple .none = false := (rfl)
@[simp] theorem is_list_int {i : Int} : PT5.is .list (.int i) = false := (rfl)
@[simp] theorem is_list_bool {b : Bool} : PT5.is .list (.bool b) = false := (rfl)
@[simp] theorem is_list_str {x : Str} : PT5.is .list (.str x) = false := (rfl)
@[simp] theorem is_list_tuple {ds : List D} : PT5.is .list (.tuple ds) = false := (rfl)
@[simp] theorem is_list_list {ds : List D} : PT5.is .list (.list ds) = true := (rfl)
@[simp] theorem is_list_dict {kv : List (D × D)} : PT5.is .list (.dict kv) = false := (rfl)
@[simp] theorem is_list_none  : PT5.is .list .none = false := (rfl)
@[simp] theorem u_inP {vs : List Nat} {i : Nat} : inP vs i = vs.contains i := (rfl)
section
variable {vs : List Nat} {g : FG} {te : FE} {S0 : SS} {ds : List D}
theorem gb_all1 (f : D → Bool) (h : ∀ d ∈ ds, itD vs g ftYes te d S0 = .ok (some (.sh, .bool (f d)), S0)) : gbD false vs g ftYes te ds S0 = .ok (ds.all f, S0) := by
  have := gb_all (vs := vs) (g := g) (tt := ftYes) (te := te) (p := fun _ => true) (f := f) (m := fun _ => .sh) (S0 := S0) (ds := ds) fun d hd => by simpa using h d hd
  simpa using this
theorem gb_any1 (f : D → Bool) (h : ∀ d ∈ ds, itD vs g ftYes te d S0 = .ok (some (.sh, .bool (f d)), S0)) : gbD true vs g ftYes te ds S0 = .ok (ds.any f, S0) := by
  have := gb_any (vs := vs) (g := g) (tt := ftYes) (te := te) (p := fun _ => true) (f := f) (m := fun _ => .sh) (S0 := S0) (ds := ds) fun d hd => by simpa using h d hd
  simpa using this
theorem lc_map1 (f : D → D) (h : ∀ d ∈ ds, ∃ r, itD vs g ftYes te d S0 = .ok (some r, S0) ∧ giveR r = .ok (.sh, f d)) (hl : ds.length ≤ 1000000) : lcD vs g ftYes te ds [] S0 = .ok (ds.map f, S0) := by
  have h' : ∀ d, ∃ r, d ∈ ds → itD vs g ftYes te d S0 = .ok (some r, S0) ∧ giveR r = .ok (.sh, f d) := fun d => by
    by_cases hd : d ∈ ds
    · obtain ⟨r, hr⟩ := h d hd
      exact ⟨r, fun _ => hr⟩
    · exact ⟨(.sh, .none), fun z => absurd z hd⟩
  have := lc_mapf (vs := vs) (g := g) (tt := ftYes) (te := te) (p := fun _ => true) (f := f) (r := fun d => (h' d).choose) (S0 := S0) (ds := ds) (acc := []) (fun d hd => ⟨by simpa using ((h' d).choose_spec hd).1, fun _ => ((h' d).choose_spec hd).2⟩) (by simpa using hl)
  rw [this, List.filter_eq_self.mpr (fun _ _ => rfl)]; rfl
end
theorem lc_map2 {vs : List Nat} {g : FG} {te : FE} {S0 : SS} {ds : List D} (f : D → D) (h : ∀ d ∈ ds, itD vs g ftYes te d S0 = .ok (some (.sh, f d), S0)) (hl : ds.length ≤ 1000000) : lcD vs g ftYes te ds [] S0 = .ok (ds.map f, S0) := lc_map1 f (fun d hd => ⟨_, h d hd, rfl⟩) hl
/-- the numbers from i on, k of them -/
def natsFrom : Nat → Nat → List D
  | _, 0 => []
  | i, k + 1 => .int (i : Nat) :: natsFrom (i + 1) k
theorem natsD_from (n : Nat) : natsD n = natsFrom 0 n := by
  have key : ∀ k i : Nat, (List.range' i k).map (fun j => PyData.int (j : Nat)) = natsFrom i k := by
    intro k
    induction k with
    | zero => intro i; rfl
    | succ k ih => intro i; rw [List.range'_succ, List.map_cons, ih]; rfl
  unfold natsD
  rw [List.range_eq_range', key]
/-- a row with its places -/
def enFrom : Nat → List D → List D
  | _, [] => []
  | i, d :: ds => .tuple [.int (i : Nat), d] :: enFrom (i + 1) ds
theorem enum_sh {ds : List D} : enumOf [(.sh, .tuple ds)] = .ok (enFrom 0 ds) := by
  have key : ∀ (ds : List D) (i : Nat), (ds.zipIdx i).map (fun x => PyData.tuple [.int (x.2 : Nat), x.1]) = enFrom i ds := by
    intro ds
    induction ds with
    | nil => intro i; rfl
    | cons d ds ih => intro i; rw [List.zipIdx_cons, List.map_cons, ih]; rfl
  show Except.ok (ds.zipIdx.map fun x => PyData.tuple [.int (x.2 : Nat), x.1]) = _
  rw [key]
theorem enum_lst {ds : List D} : enumOf [(.sh, .list ds)] = .ok (enFrom 0 ds) := enum_sh (ds := ds)
theorem mem_natsD {n : Nat} {d : D} (h : d ∈ natsD n) : ∃ i : Nat, i < n ∧ d = .int i := by
  unfold natsD at h
  obtain ⟨i, hi, rfl⟩ := List.mem_map.mp h
  exact ⟨i, List.mem_range.mp hi, rfl⟩
@[simp] theorem natsD_len {n : Nat} : (natsD n).length = n := by simp [natsD]
/-- a for by its invariant: what is left of the row, and the state -/
theorem for_inv {g : FG} {body : FS} {Inv : List D → SS → Prop} {Post : Fl → SS → Prop} (h : ∀ d ds S, Inv (d :: ds) S → ∃ S1 fl S2, g (.sh, d) S = .ok S1 ∧ body S1 = .ok (fl, S2) ∧ (match fl with
      | .nx => Inv ds S2
      | .ct => Inv ds S2
      | .bk => Post .nx S2
      | .rt r => Post (.rt r) S2)) (h0 : ∀ S, Inv [] S → Post .nx S) : ∀ {ds : List D} {S : SS}, Inv ds S → ∃ fl S', forD g body ds S = .ok (fl, S') ∧ Post fl S'
  | [], S, hi => ⟨.nx, S, rfl, h0 S hi⟩
  | d :: ds, S, hi => by
    obtain ⟨S1, fl, S2, e1, e2, q⟩ := h d ds S hi
    rw [forD, e1, ex_bind, e2, ex_bind]
    cases fl with
    | nx => exact for_inv h h0 q
    | ct => exact for_inv h h0 q
    | bk => exact ⟨.nx, S2, rfl, q⟩
    | rt r => exact ⟨.rt r, S2, rfl, q⟩
/-- a for that works a state out -/
theorem for_fold {β : Type} {g : FG} {body : FS} {st : β → SS} {step : β → D → β} {ok : β → List D → Prop} (h : ∀ b d ds, ok b (d :: ds) → ∃ S1, g (.sh, d) (st b) = .ok S1 ∧ (body S1 = .ok (.nx, st (step b d)) ∨ body S1 = .ok (.ct, st (step b d))) ∧ ok (step b d) ds) : ∀ {ds : List D} {b : β}, ok b ds → forD g body ds (st b) = .ok (.nx, st (ds.foldl step b)) ∧ ok (ds.foldl step b) []
  | [], b, hb => ⟨rfl, hb⟩
  | d :: ds, b, hb => by
    obtain ⟨S1, e1, e2, q⟩ := h b d ds hb
    rw [forD, e1, ex_bind, List.foldl_cons]
    rcases e2 with e2 | e2
    · rw [e2, ex_bind]; exact for_fold h q
    · rw [e2, ex_bind]; exact for_fold h q
/-- a while by its measure -/
theorem while_inv {t : FT} {body : FS} {Inv : Nat → SS → Prop} {Post : Fl → SS → Prop} (h : ∀ n S, Inv n S → ∃ b S1, t S = .ok (b, S1) ∧ (b = false → Post .nx S1) ∧ (b = true → ∃ fl S2, body S1 = .ok (fl, S2) ∧ (match fl with
      | .nx => ∃ k, k < n ∧ Inv k S2
      | .ct => ∃ k, k < n ∧ Inv k S2
      | .bk => Post .nx S2
      | .rt r => Post (.rt r) S2))) : ∀ {F n : Nat} {S : SS}, n < F → Inv n S → ∃ fl S', whileD t body F S = .ok (fl, S') ∧ Post fl S'
  | 0, n, S, hF, _ => absurd hF (Nat.not_lt_zero n)
  | F + 1, n, S, hF, hi => by
    obtain ⟨b, S1, e1, q1, q2⟩ := h n S hi
    rw [whileD, e1, ex_bind]
    cases b with
    | false => exact ⟨.nx, S1, rfl, q1 rfl⟩
    | true =>
      obtain ⟨fl, S2, e2, q⟩ := q2 rfl
      dsimp only
      rw [if_pos rfl, e2, ex_bind]
      cases fl with
      | nx =>
        obtain ⟨k, hk, q⟩ := q
        exact while_inv h (by omega) q
      | ct =>
        obtain ⟨k, hk, q⟩ := q
        exact while_inv h (by omega) q
      | bk => exact ⟨.nx, S2, rfl, q⟩
      | rt r => exact ⟨.rt r, S2, rfl, q⟩
end O
set_option maxRecDepth 100000
/-! the box that a law draws from -/
namespace O
open PySem
structure Bx where
  cells : List Int
  n1 : Nat
  n2 : Int
def dB (b : Bx) : D := .list [.list (b.cells.map .int), .int (b.n1 : Nat), .int b.n2]
theorem boxD_eq (ns : List Int) : boxD ns = dB ⟨ns, 0, 4711 + ns.length⟩ := (rfl)
theorem tailD_pos (n : Int) : 0 ≤ (tailD n).1 := by
  unfold tailD
  have h1 : 0 ≤ (n * 48271 + 17) % 2147483629 := Int.emod_nonneg _ (by decide)
  have h2 : 0 ≤ (((n * 48271 + 17) % 2147483629) * 69621 + 5) % 2147483587 := Int.emod_nonneg _ (by decide)
  have h3 : 0 ≤ ((((n * 48271 + 17) % 2147483629) * 69621 + 5) % 2147483587 * 40692 + 3) % 2147483563 := Int.emod_nonneg _ (by decide)
  dsimp only
  omega
def Bx.load (b : Bx) : Bx := match b.cells with
  | [] => ⟨[], (tailD b.n2).1.toNat, (tailD b.n2).2⟩
  | c :: cs => if 1000000000000000000 ≤ sizeD c then ⟨cs, (sizeD c).toNat, b.n2⟩ else
    ⟨cs, (tailD ((b.n2 * 69621 + sizeD c * 48271 + 11) % 2147483647)).1.toNat, (tailD ((b.n2 * 69621 + sizeD c * 48271 + 11) % 2147483647)).2⟩
theorem m_load_ok (b : Bx) : m_load [(.bx, dB b)] = .ok ((.sh, .int (b.load.n1 : Nat)), [(.bx, .list [.list (b.load.cells.map .int), .int (b.n1 : Nat), .int b.load.n2])]) := by
  obtain ⟨cells, n1, n2⟩ := b
  cases cells with
  | nil =>
    show Except.ok (((Md.sh, PyData.int (tailD n2).1), _) : MV × List MV) = _
    have h := tailD_pos n2
    have e : (((tailD n2).1.toNat : Nat) : Int) = (tailD n2).1 := by omega
    simp only [Bx.load, e]
    rfl
  | cons c cs =>
    show (loadD (.int c :: cs.map .int) n2 >>= _) = _
    unfold loadD
    by_cases hc : 1000000000000000000 ≤ sizeD c
    · have e : (((sizeD c).toNat : Nat) : Int) = sizeD c := by omega
      simp only [hc, if_true, ex_bind, Bx.load, e]
      rfl
    · have h := tailD_pos ((n2 * 69621 + sizeD c * 48271 + 11) % 2147483647)
      simp only [hc, if_false, ex_bind, Bx.load]
      generalize (tailD ((n2 * 69621 + sizeD c * 48271 + 11) % 2147483647)) = t at h ⊢
      have e : ((t.1.toNat : Nat) : Int) = t.1 := by omega
      rw [e]
      rfl
def Bx.fill (b : Bx) (k : Int) : Bx := if (b.n1 : Int) < k then b.load else b
def Bx.dig (b : Bx) (k : Int) : Int := ((b.fill k).n1 : Int) % k
def Bx.nxt (b : Bx) (k : Int) : Bx := { b.fill k with n1 := (((b.fill k).n1 : Int) / k).toNat }
theorem Bx.dig_nn (b : Bx) {k : Int} (h : 0 < k) : 0 ≤ b.dig k := Int.emod_nonneg _ (by omega)
theorem Bx.dig_lt (b : Bx) {k : Int} (h : 0 < k) : b.dig k < k := Int.emod_lt_of_pos _ h
def bDraw : FS :=
  sSeq (sIf (tB1 (fOp2 semLt (oV (fOp2 semIx (oP 0) (oV (fCon (.int 1))))) (oP 1))) (sAsg (gIxB 0 0) (fCall 1 [0] m_load (aCons (oP 0) (aNil)))) (sNil)) (
  sSeq (sAsg (gNm 2) (fOp2 semMod (oV (fN semInt1 (aCons (oV (fOp2 semIx (oP 0) (oV (fCon (.int 1))))) (aNil)))) (oP 1))) (
  sSeq (sAsg (gIxB 0 0) (fOp2 semFdiv (oV (fOp2 semIx (oP 0) (oV (fCon (.int 1))))) (oP 1))) (
  sRet (fTake 2))))
theorem divOk_of {j : Int} (h : 0 < j) (hb : j < 2 ^ 200) : DvOk j := ⟨by omega, by
  have : j.natAbs.log2 < 200 := (Nat.log2_lt (by omega)).mpr (by omega)
  omega⟩
theorem bDraw_ok (b : Bx) {k : Int} (h : 0 < k) (hk : k < 2 ^ 200) : runD 3 [0] bDraw [(.bx, dB b), (.sh, .int k)] = .ok ((.sh, .int (b.dig k)), [(.bx, dB (b.nxt k))]) := by
  have hd := divOk_of h hk
  have hf : ∀ n : Nat, ((n : Int).fdiv k) = (((n : Int) / k).toNat : Nat) := fun n => by
    rw [Int.fdiv_eq_ediv_of_nonneg _ (by omega)]
    have : 0 ≤ (n : Int) / k := Int.ediv_nonneg (by omega) (by omega)
    omega
  unfold bDraw
  have hl := m_load_ok b
  by_cases hn : (b.n1 : Int) < k
  · unfold Bx.dig Bx.nxt Bx.fill
    rw [if_pos hn]
    generalize b.load = b' at hl ⊢
    unfold dB at hl ⊢
    simp [hn, hl, h, hd, hf]
  · unfold Bx.dig Bx.nxt Bx.fill
    rw [if_neg hn]
    unfold dB
    simp [hn, h, hd, hf]
/-! sameness -/
def bSame (me : SemF) : FS :=
  sSeq (sIf (fOrT (fAndT (tB1 (fO1 (semIsT .tuple) (oP 0))) (tB1 (fO1 (semIsT .tuple) (oP 1)))) (fAndT (tB1 (fO1 (semIsT .list) (oP 0))) (tB1 (fO1 (semIsT .list) (oP 1))))) (sRet (fAndV (fOp2 semEq (oV (fN semLen (aCons (oP 0) (aNil)))) (oV (fN semLen (aCons (oP 1) (aNil))))) (fN semAll (aCons (oV (fLc 3 [2] (fiA (onD rng1) (aCons (oV (fN semLen (aCons (oP 0) (aNil)))) (aNil))) (gNm 2) (ftYes) (fCall 2 [] me (aCons (oV (fOp2 semIx (oP 0) (oP 2))) (aCons (oV (fOp2 semIx (oP 1) (oP 2))) (aNil)))))) (aNil))))) (sNil)) (
  sSeq (sIf (fOrT (tB1 (fO1 (semIsT .bool) (oP 0))) (tB1 (fO1 (semIsT .bool) (oP 1)))) (sRet (fAndV (fO1 (semIsT .bool) (oP 0)) (fAndV (fO1 (semIsT .bool) (oP 1)) (fOp2 semEq (oP 0) (oP 1))))) (sNil)) (
  sSeq (sIf (fOrT (fAndT (tB1 (fO1 (semIsT .int) (oP 0))) (tB1 (fO1 (semIsT .int) (oP 1)))) (fAndT (tB1 (fO1 (semIsT .str) (oP 0))) (tB1 (fO1 (semIsT .str) (oP 1))))) (sRet (fOp2 semEq (oP 0) (oP 1))) (sNil)) (
  sRet (fAndV (fOp2 semIs (oP 0) (oV (fCon .none))) (fOp2 semIs (oP 1) (oV (fCon .none)))))))
def mSame : Nat → SemF
  | 0 => fun _ => stk
  | n + 1 => runD 3 [] (bSame (mSame n))
end O
set_option maxRecDepth 100000
set_option maxHeartbeats 3200000
/-! sets of tuples of whole numbers and texts -/
namespace O
open PySem PySem.Spec PyProof.Rows L2
section
variable {P : Program} {w : World} {A : Around} {E : Value → Shared → Prop} {s : Shared}
abbrev tH (P : Program) (w : World) (k : List Key) : Int := tupleKeyHash (mixKind P w) k
abbrev tIs (P : Program) (w : World) (h : Heap) (k : List Key) (x : Addr) : Prop := IsTupleKey (mixKind P w) h k x
def entT (P : Program) (w : World) (p : Addr × List Key) : Int × Value := (tH P w p.2, Value.ref p.1)
def plainV (v : Value) : Prop := (∃ i t, v = Value.int i t) ∨ ∃ x t, v = Value.str x t
theorem items_plain {k : List Key} {vs : List Value} (z : ItemsAre (mixKind P w) k vs) : ∀ v ∈ vs, plainV v := by
  induction z with
  | nil => intro v hv; cases hv
  | cons q _ ih =>
    intro v hv
    cases hv with
    | head =>
      rcases keyIs_shape q with ⟨i, t, _, e⟩ | ⟨x, t, _, e⟩
      · exact .inl ⟨i, t, e⟩
      · exact .inr ⟨x, t, e⟩
    | tail _ hv => exact ih v hv
theorem class_plain (n : Nat) {v : Value} (z : plainV v) : ofAClassStatement n v = pure false := by
  rcases z with ⟨i, t, rfl⟩ | ⟨x, t, rfl⟩ <;> cases n <;> rfl
theorem hash_plain (n : Nat) {v : Value} (z : plainV v) : ∃ b, hashByValue n v = pure b := by
  rcases z with ⟨i, t, rfl⟩ | ⟨x, t, rfl⟩ <;> cases n <;> exact ⟨_, rfl⟩
theorem class_tup {k : List Key} {x : Addr} {Q : Bool → Shared → Prop} (z : tIs P w s.heap k x) (q : Q false s) : wpAny (model P w) A (ofAClassStatement 8 (.ref x)) Q E s := by
  have ty := z.typeIs
  obtain ⟨o, its, n, hob, _, hdt, hit⟩ := z
  unfold ofAClassStatement
  refine wpAny_bind (wpAny_typeOf ty ?_)
  dsimp only
  simp only [show (("tuple" : String) == "tuple") = true by decide, if_true, Bool.not_true, Bool.false_eq_true, if_false]
  try refine wpAny_bind (wpAny_pure ?_)
  try simp only [Bool.false_eq_true, Bool.not_true, if_false]
  show wpAny _ _ (seqItems? (.ref x) >>= _) _ _ s
  refine wpAny_bind (wpAny_seqItems hob hdt ?_)
  dsimp only
  refine wpAny_bind ?_
  show wpAny _ _ (forIn its _ _) _ _ s
  rw [← Array.forIn_toList]
  refine wpAny_forIn_list _ (fun rest r s' => r.1 = none ∧ s' = s ∧ ∀ v ∈ rest, plainV v) _ ?_ ?_ _ _ ⟨rfl, rfl, items_plain hit⟩
  · rintro v rest r s' ⟨_, rfl, al⟩
    rw [class_plain _ (al v List.mem_cons_self)]
    refine wpAny_bind (wpAny_pure ?_)
    rw [if_neg (by decide)]
    exact wpAny_pure ⟨rfl, rfl, fun u hu => al u (List.mem_cons_of_mem _ hu)⟩
  · rintro ⟨r1, r2⟩ s' ⟨hr, rfl, _⟩
    obtain rfl : r1 = none := hr
    exact wpAny_pure q
theorem hash_tup {k : List Key} {x : Addr} {Q : Bool → Shared → Prop} (z : tIs P w s.heap k x) (q : ∀ b, Q b s) : wpAny (model P w) A (hashByValue 8 (.ref x)) Q E s := by
  have ty := z.typeIs
  obtain ⟨o, its, n, hob, _, hdt, hit⟩ := z
  unfold hashByValue
  refine wpAny_bind (wpAny_specialOf ty F.slot_tuple_hash.lookup ?_)
  show wpAny _ _ (seqItems? (.ref x) >>= _) _ _ s
  refine wpAny_bind (wpAny_seqItems hob hdt ?_)
  refine wpAny_bind ?_
  show wpAny _ _ (forIn its _ _) _ _ s
  rw [← Array.forIn_toList]
  refine wpAny_mono (Q := fun r s' => s' = s) (wpAny_forIn_list _ (fun rest r s' => r.1 = none ∧ s' = s ∧ ∀ v ∈ rest, plainV v) _ ?turn ?fin _ _ ⟨rfl, rfl, items_plain hit⟩) (fun r s' e => ?_) fun _ _ e => e
  case turn =>
    rintro v rest r s' ⟨_, rfl, al⟩
    obtain ⟨b, e⟩ := hash_plain 7 (al v List.mem_cons_self)
    rw [e]
    refine wpAny_bind (wpAny_pure ?_)
    cases b
    · rw [if_pos (by decide)]
      exact wpAny_pure rfl
    · rw [if_neg (by decide)]
      exact wpAny_pure ⟨rfl, rfl, fun u hu => al u (List.mem_cons_of_mem _ hu)⟩
  case fin =>
    rintro ⟨r1, r2⟩ s' ⟨hr, rfl, _⟩
    rfl
  obtain ⟨r1, r2⟩ := r
  subst e
  cases r1 with
  | none => exact wpAny_pure (q true)
  | some b => exact wpAny_pure (q b)
/-- a search among tuples shows nothing -/
theorem unseen_tup {k : List Key} {x : Addr} {Q : Bool → Shared → Prop} (z : tIs P w s.heap k x) {ys : List Value} (hy : ∀ y ∈ ys, ∃ k' c, y = Value.ref c ∧ tIs P w s.heap k' c) (q : Q false s) : wpAny (model P w) A (searchCouldBeSeen (.ref x) ys) Q E s := by
  unfold searchCouldBeSeen
  refine wpAny_bind ?_
  refine wpAny_forIn_list _ (fun rest r s' => r.1 = none ∧ s' = s ∧ ∀ y ∈ rest, ∃ k' c, y = Value.ref c ∧ tIs P w s.heap k' c) _ ?_ ?_ _ _ ⟨rfl, rfl, hy⟩
  · rintro y rest r s' ⟨_, rfl, al⟩
    obtain ⟨k', c, rfl, hc⟩ := al y List.mem_cons_self
    have al' : ∀ y ∈ rest, ∃ k' c, y = Value.ref c ∧ tIs P w s'.heap k' c := fun u hu => al u (List.mem_cons_of_mem _ hu)
    dsimp only
    by_cases hv : (x == c || (carriedByValue (.ref x) && carriedByValue (.ref c))) = true
    · exact wp_if_pos hv (wpAny_pure ⟨rfl, rfl, al'⟩)
    · refine wp_if_neg hv ?_
      refine wpAny_bind (wpAny_eqIsQuiet_tuple z ?_)
      rw [if_neg (by decide)]
      refine wpAny_bind (wpAny_eqIsQuiet_tuple hc ?_)
      rw [if_neg (by decide)]
      refine wpAny_bind (class_tup z ?_)
      rw [if_neg (by decide)]
      refine wpAny_bind (class_tup hc ?_)
      rw [if_neg (by decide)]
      exact wpAny_pure ⟨rfl, rfl, al'⟩
  · rintro ⟨r1, r2⟩ s' ⟨hr, rfl, _⟩
    obtain rfl : r1 = none := hr
    exact wpAny_pure q
/-! ### the table of such a set -/
structure TW (P : Program) (w : World) (h : Heap) (a : Addr) (L : List (Addr × List Key)) (es : Array (Int × Value)) (ep : Nat) (t : SetTable) : Prop where
  obj : ∃ o, h.get? a = some o ∧ o.ExactSet ∧ o.data = .set es ep t
  ent : es.toList.Perm (L.map (entT P w))
  tab : TabOk t (es.toList.map (·.1))
  uni : (L.map (·.2)).Nodup
  key : ∀ p ∈ L, tIs P w h p.2 p.1
  led : w.params.followText "set-order" = true ∨ t.led = true
  roomy : L.length * 5 < t.mask * 3
  low : L.length < 64
variable {a : Addr} {L : List (Addr × List Key)} {es : Array (Int × Value)} {ep : Nat} {t : SetTable}
theorem TW.size {h : Heap} (Z : TW P w h a L es ep t) : es.size = L.length := by
  have q := Z.ent.length_eq
  rwa [List.length_map, Array.length_toList] at q
theorem TW.fit {h : Heap} (Z : TW P w h a L es ep t) : t.fits es.size = true := by
  have q1 := Z.tab.sz
  rw [List.length_map, Array.length_toList] at q1
  have q2 := Z.size
  have q3 := Z.roomy
  unfold SetTable.fits SetTable.fill
  rw [Z.tab.dm, Bool.and_eq_true, decide_eq_true_eq, beq_iff_eq]
  exact ⟨q1, by show t.place.size + 0 ≤ t.mask; omega⟩
theorem TW.at_ {h : Heap} (Z : TW P w h a L es ep t) {i : Nat} {e : Int × Value} (q : es.toList[i]? = some e) : ∃ p ∈ L, e = entT P w p := by
  have m : e ∈ L.map (entT P w) := Z.ent.mem_iff.mp (List.mem_of_getElem? q)
  obtain ⟨p, hp, e⟩ := List.mem_map.mp m
  exact ⟨p, hp, e.symm⟩
theorem TW.odd {h : Heap} (Z : TW P w h a L es ep t) : ¬ t.gaveWay = true := by
  unfold SetTable.gaveWay
  rw [mask_odd Z.tab.mok]
  decide
abbrev pr (m : Nat) (h : Int) (k : Nat) : SetTable.Probe := nth m (runAt m (SetTable.bits h % (m + 1)) (SetTable.bits h)) k
theorem pr_dummy (m : Nat) : ∀ (n : Nat) (p : SetTable.Probe), p.dummy = none → (nth m p n).dummy = none
  | 0, _, e => e
  | n + 1, p, e => pr_dummy m n (adv m p) (by unfold adv; split <;> exact e)
theorem pr_add (m : Nat) (h : Int) (c q : Nat) : nth m (pr m h c) q = pr m h (c + q) := (nth_add m c _ q).symm
theorem TW.seek (Z : TW P w s.heap a L es ep t) {x : Addr} {k : List Key} {adding : Bool} (hx : tIs P w s.heap k x) (hu : A.units < cLine) {K : Nat} (hf : K < 10 * SetTable.turns t.mask)
    (hK : way t.mask (tH P w k) K ∉ t.place.toList) (hb : ∀ c, c < K → way t.mask (tH P w k) c ∈ t.place.toList) {Q : SetFound → Shared → Prop}
    (yes : k ∈ L.map (·.2) → ∀ r, (adding = false → ∃ i, r = some i) → Q (.there r) s) (no : k ∉ L.map (·.2) → Q (.free (way t.mask (tH P w k) K) false) s) :
    ∀ (f c : Nat) (st : Option SetTable.Probe), st.getD (t.probeStart (tH P w k)) = pr t.mask (tH P w k) c → c ≤ K → K - c < f →
      (∀ (i : Nat) p, es.toList[i]? = some (entT P w p) → p ∈ L → p.2 = k → ∃ c', c ≤ c' ∧ c' < K ∧ t.place.toList[i]? = some (way t.mask (tH P w k) c')) →
      wpAny (model P w) A (setSearchFrom a (.ref x) (tH P w k) adding f st) Q E s := by
  intro f
  induction f with
  | zero => intro c st _ _ q; exact absurd q (Nat.not_lt_zero _)
  | succ f ih =>
    intro c st hst hc hfu left
    obtain ⟨o, ho, hex, hd⟩ := Z.obj
    rw [setSearchFrom_succ]
    refine wpAny_bind (wpAny_setState_of ho hd Z.fit ?_)
    dsimp only
    refine wp_if_neg Z.odd ?_
    try refine wpAny_bind (wpAny_pure ?_)
    have sp := go_spec t Z.tab.ris Z.tab.dm (fun i => (es[i]?.map (·.1)).getD 0) (tH P w k) (10 * SetTable.turns t.mask) (K - c) (pr t.mask (tH P w k) c) (pr_dummy _ _ _ rfl) (by omega)
      (fun q hq => by rw [pr_add]; exact hb (c + q) (by omega)) (by rw [pr_add, show c + (K - c) = K by omega]; exact hK)
    have go : t.probe (fun i => (es[i]?.map (·.1)).getD 0) (tH P w k) (st.getD (t.probeStart (tH P w k))) = SetTable.probe.go t (fun i => (es[i]?.map (·.1)).getD 0) (tH P w k) (10 * SetTable.turns t.mask) (pr t.mask (tH P w k) c) := by rw [hst]; rfl
    have hash : ∀ (i : Nat) p, es.toList[i]? = some (entT P w p) → (fun i => (es[i]?.map (·.1)).getD 0) i = tH P w p.2 := fun i p q => by
      show (es[i]?.map (·.1)).getD 0 = _
      rw [← Array.getElem?_toList, q]
      rfl
    rw [go]
    rcases sp with ⟨q, i, hq, hi, hh, hno, hgo⟩ | ⟨hno, hgo⟩
    · rw [hgo]
      dsimp only
      rw [pr_add] at hi
      have hlt : i < es.toList.length := by
        have z1 := (List.getElem?_eq_some_iff.mp hi).1
        have z2 := Z.tab.sz
        rw [List.length_map] at z2
        rw [Array.length_toList] at z1
        omega
      have hie : es.toList[i]? = some es.toList[i] := List.getElem?_eq_getElem hlt
      obtain ⟨p, hp, ep'⟩ := Z.at_ hie
      rw [ep'] at hie
      have hie' : es[i]? = some (entT P w p) := by rw [← Array.getElem?_toList]; exact hie
      have hpk := Z.key p hp
      have rest : wpAny (model P w) A (searchRest a (.ref x) (tH P w k) adding f es t (nth t.mask (pr t.mask (tH P w k) c) q).j i (nth t.mask (pr t.mask (tH P w k) c) (q + 1))) Q E s := by
        unfold searchRest
        rw [hie']
        dsimp only [entT]
        refine wpAny_bind (wpAny_holding (wpAny_eqBool_tuple hu hpk hx ?_))
        refine wpAny_bind (wpAny_setState_of ho hd Z.fit ?_)
        dsimp only
        have hsl : t.slot (nth t.mask (pr t.mask (tH P w k) c) q).j = .live i := slot_live Z.tab.ris (by rw [pr_add]; exact hi)
        by_cases hkk : p.2 = k
        · have hm : k ∈ L.map (·.2) := List.mem_map.mpr ⟨p, hp, hkk⟩
          rw [decide_eq_true hkk]
          cases adding with
          | true =>
            refine wp_if_pos rfl ?_
            exact wpAny_pure (yes hm none fun z => nomatch z)
          | false =>
            refine wp_if_neg (by decide) ?_
            try refine wpAny_bind (wpAny_pure ?_)
            rw [sameMem]
            dsimp only
            simp only [if_true, hsl, hie', entT]
            refine wpAny_bind (wpAny_isSame_ref_self (wpAny_bind (wpAny_pure ?_)))
            simp only [if_true]
            exact wpAny_pure (yes hm _ fun _ => ⟨_, rfl⟩)
        · rw [decide_eq_false hkk]
          refine wp_if_neg (by simp) ?_
          try refine wpAny_bind (wpAny_pure ?_)
          rw [sameMem]
          dsimp only
          simp only [if_true, hsl, hie', entT]
          refine wpAny_bind (wpAny_isSame_ref_self (wpAny_bind (wpAny_pure ?_)))
          simp only [if_true]
          rw [if_neg (by decide)]
          refine ih (c + (q + 1)) _ (by rw [pr_add]; rfl) (by omega) (by omega) fun j p' z1 z2 z3 => ?_
          obtain ⟨c', y1, y2, y3⟩ := left j p' z1 z2 z3
          refine ⟨c', ?_, y2, y3⟩
          rcases Nat.lt_trichotomy c' (c + q) with g | g | g
          · refine absurd ?_ (hno (c' - c) j (by omega) (by rw [pr_add, show c + (c' - c) = c' by omega]; exact y3))
            exact (hash j p' z1).trans (by rw [z3])
          · exfalso
            subst g
            have s1 := slot_live Z.tab.ris y3
            rw [pr_add] at hsl
            rw [hsl] at s1
            injection s1 with s1
            subst s1
            rw [hie] at z1
            have e2 : p.1 = p'.1 := by
              have := congrArg Prod.snd (Option.some.inj z1)
              injection this
            have k1 := Z.key p' z2
            rw [← e2] at k1
            exact hkk ((hpk.inj k1).trans z3)
          · omega
      by_cases hl : t.led = true
      · refine wp_if_neg (by rw [hl]; decide) ?_
        try refine wpAny_bind (wpAny_pure ?_)
        exact rest
      · refine wp_if_pos (by simp [hl]) ?_
        refine wpAny_bind (unseen_tup hx (fun y hy => ?_) ?_)
        · obtain ⟨e, he, rfl⟩ := List.mem_map.mp hy
          have he1 : e ∈ es ∧ e.1 = tH P w k := by simpa using he
          have he2 : e ∈ L.map (entT P w) := Z.ent.mem_iff.mp (by simpa using he1.1)
          obtain ⟨p2, hp2, rfl⟩ := List.mem_map.mp he2
          exact ⟨p2.2, p2.1, rfl, Z.key p2 hp2⟩
        · rw [if_neg (by decide)]
          try refine wpAny_bind (wpAny_pure ?_)
          exact rest
    · rw [hgo]
      dsimp only
      rw [pr_add, show c + (K - c) = K by omega]
      refine wpAny_pure (no fun hm => ?_)
      obtain ⟨p0, h0, hk0⟩ := List.mem_map.mp hm
      have h1 : entT P w p0 ∈ es.toList := Z.ent.mem_iff.mpr (List.mem_map.mpr ⟨p0, h0, rfl⟩)
      obtain ⟨i0, hi0, e0⟩ := List.getElem_of_mem h1
      have h2 : es.toList[i0]? = some (entT P w p0) := by rw [List.getElem?_eq_getElem hi0, e0]
      obtain ⟨c', y1, y2, y3⟩ := left i0 p0 h2 h0 hk0
      refine hno (c' - c) i0 (by omega) (by rw [pr_add, show c + (c' - c) = c' by omega]; exact y3) ?_
      exact (hash i0 p0 h2).trans (by rw [hk0])
theorem TW.search (Z : TW P w s.heap a L es ep t) {x : Addr} {k : List Key} {adding : Bool} (hx : tIs P w s.heap k x) (hu : A.units < cLine) {Q : SetFound → Shared → Prop}
    (yes : k ∈ L.map (·.2) → ∀ r, (adding = false → ∃ i, r = some i) → Q (.there r) s)
    (no : ∀ K, k ∉ L.map (·.2) → way t.mask (tH P w k) K ∉ t.place.toList → (∀ c, c < K → way t.mask (tH P w k) c ∈ t.place.toList) → Q (.free (way t.mask (tH P w k) K) false) s) :
    wpAny (model P w) A (setSearch a (.ref x) (tH P w k) adding) Q E s := by
  have hr := Z.roomy
  have hl := Z.size
  obtain ⟨K, hf, hK, hb⟩ := Z.tab.first (by rw [List.length_map, Array.length_toList]; omega) (tH P w k)
  have hbig : K < 100000 := by
    have : SetTable.turns t.mask ≤ 142 := by
      unfold SetTable.turns
      rcases Z.tab.mok with e | e | e <;> omega
    omega
  refine Z.seek hx hu hf hK hb yes (fun n => no K n hK hb) 100000 0 none rfl (Nat.zero_le _) (by omega) fun i p h1 h2 h3 => ?_
  have hi : (es.toList.map (·.1))[i]? = some (tH P w k) := by rw [List.getElem?_map, h1, ← h3]; rfl
  have hlt : i < t.place.toList.length := by
    have z1 := (List.getElem?_eq_some_iff.mp h1).1
    have z2 := Z.tab.sz
    rw [List.length_map] at z2
    rw [Array.length_toList]
    omega
  have hj := List.getElem?_eq_getElem hlt
  obtain ⟨c, hc, e⟩ := Z.tab.before hK hi hj
  exact ⟨c, Nat.zero_le _, hc, by rw [hj, e]⟩
/-! ### laid anew, added -/
theorem picked {α : Type} (l : List α) (f : α → Int) : ∀ (o : List Nat), (∀ i ∈ o, i < l.length) → (o.filterMap fun i => l[i]?).map f = o.map fun i => (l.map f).getD i 0
  | [], _ => rfl
  | i :: o, h => by
    have hi := h i List.mem_cons_self
    rw [List.filterMap_cons_some (List.getElem?_eq_getElem hi), List.map_cons, List.map_cons, picked l f o fun j hj => h j (List.mem_cons_of_mem _ hj)]
    congr 1
    rw [List.getD_eq_getElem?_getD, List.getElem?_map, List.getElem?_eq_getElem hi]
    rfl
theorem pick_all {α : Type} (l : List α) {o : List Nat} (h : o.Perm (List.range l.length)) : (o.filterMap fun i => l[i]?).Perm l := by
  have q := h.filterMap (fun i => l[i]?)
  rwa [List.filterMap_getElem?_range_length] at q
theorem tis_same {h h' : Heap} {k : List Key} {b : Addr} {o : Obj} (z : tIs P w h k b) (ho : h.get? a = some o) (hd : o.data = .set es ep t) (sb : Heap.SameBut a h h') : tIs P w h' k b := by
  obtain ⟨u, its, n, hu, c, d, it⟩ := z
  refine ⟨u, its, n, (sb.2 b fun e => ?_).trans hu, c, d, it⟩
  subst e
  rw [ho] at hu
  cases hu
  rw [hd] at d
  cases d
theorem relay_tup {o : Obj} (ho : s.heap.get? a = some o) (hex : o.ExactSet) (hd : o.data = .set es ep t) (ent : es.toList.Perm (L.map (entT P w))) (tab : TabOk t (es.toList.map (·.1))) (hm : es.size ≤ t.mask)
    (uni : (L.map (·.2)).Nodup) (key : ∀ p ∈ L, tIs P w s.heap p.2 p.1) (led : w.params.followText "set-order" = true ∨ t.led = true) (low : L.length < 64) {n M : Nat}
    (hw : SetTable.sizeAbove n - 1 = M) (hM : MaskOk M) (hs : SetTable.sizeAbove n ≤ 128) (hn : L.length * 5 < M * 3) {Q : Unit → Shared → Prop}
    (q : ∀ h' es' ep' t', Heap.SameBut a s.heap h' → TW P w h' a L es' ep' t' → Q () { s with heap := h' }) : wpAny (model P w) A (setRelay a n) Q E s := by
  have len : es.size = L.length := by
    have z := ent.length_eq
    rwa [List.length_map, Array.length_toList] at z
  have fit : t.fits es.size = true := by
    have z := tab.sz
    rw [List.length_map, Array.length_toList] at z
    unfold SetTable.fits SetTable.fill
    rw [tab.dm, Bool.and_eq_true, decide_eq_true_eq, beq_iff_eq]
    exact ⟨z, by show t.place.size + 0 ≤ t.mask; omega⟩
  obtain ⟨t', ord, e1, e2, e3, e4, e5, e6, e7⟩ := relaid_ok t (hs := es.map (·.1)) (wanted := n) hw hM (by rw [Array.size_map]; have := hM; rcases hM with z | z | z <;> omega)
  rw [Array.size_map] at e2
  have inb : ∀ i ∈ ord.toList, i < es.toList.length := fun i hi => by
    rw [Array.length_toList]
    exact List.mem_range.mp (e2.mem_iff.mp hi)
  have eL : (ord.filterMap (es[·]?)).toList = ord.toList.filterMap fun i => es.toList[i]? := by
    rw [Array.toList_filterMap]
    exact congrArg (fun g => List.filterMap g ord.toList) (funext fun i => by rw [Array.getElem?_toList])
  have pm : (ord.filterMap (es[·]?)).toList.Perm es.toList := by
    rw [eL]
    exact pick_all es.toList (by rw [Array.length_toList]; exact e2)
  have hh : (ord.filterMap (es[·]?)).toList.map (·.1) = ord.toList.map fun i => (es.map (·.1)).getD i 0 := by
    rw [eL, picked es.toList (·.1) _ inb]
    refine List.map_congr_left fun i hi => ?_
    rw [List.getD_eq_getElem?_getD, Array.getD_eq_getD_getElem?, ← Array.toList_map, Array.getElem?_toList]
  rw [← hh] at e3
  have sz2 : (ord.filterMap (es[·]?)).size = es.size := by
    have z := pm.length_eq
    rwa [Array.length_toList, Array.length_toList] at z
  rw [setRelay_eq]
  refine wpAny_bind (wpAny_setState_of ho hd fit ?_)
  dsimp only
  refine wp_if_neg (by rw [sizeLine_eq]; omega) ?_
  try refine wpAny_bind (wpAny_pure ?_)
  rw [e1]
  dsimp only
  refine wpAny_bind ?_
  refine wp_if_neg (by rw [sz2]; simp) ?_
  try refine wpAny_bind (wpAny_pure ?_)
  refine wpAny_pure ?_
  dsimp only
  have sb := Heap.SameBut.update s.heap a (Obj.putSet (ord.filterMap (es[·]?)) t')
  refine wpAny_storeSet_of ho hd ?_ (by rw [sz2, len, sizeLine_eq]; omega)
  refine q _ (ord.filterMap (es[·]?)) (ep + 1) t' sb ⟨⟨_, store_at ho hd, ⟨hex.1, hex.2.1, hex.2.2⟩, rfl⟩, pm.trans ent, e3, uni, fun p hp => tis_same (key p hp) ho hd sb, by rw [e5]; exact led, by rw [e4]; exact hn, low⟩
theorem TW.add (Z : TW P w s.heap a L es ep t) {x : Addr} {k : List Key} (hx : tIs P w s.heap k x) (hu : A.units < cLine) (few : L.length + 1 < 64) {Q : Bool → Shared → Prop}
    (q : ∀ b h' L' es' ep' t', Heap.SameBut a s.heap h' → TW P w h' a L' es' ep' t' → (k ∈ L.map (·.2) → L' = L) → (k ∉ L.map (·.2) → L' = (x, k) :: L) → Q b { s with heap := h' }) :
    wpAny (model P w) A (setAddHashed a (.ref x) (tH P w k)) Q E s := by
  obtain ⟨o, ho, hex, hd⟩ := Z.obj
  have len := Z.size
  have roomy := Z.roomy
  unfold setAddHashed
  refine wpAny_holding ?_
  rw [show (100000 : Nat) = 99999 + 1 from rfl, setAddHashedIn_succ]
  refine wpAny_bind (wpAny_setState_of ho hd Z.fit ?_)
  dsimp only
  refine wp_if_neg (by simp [byScan, Value.scannable]) ?_
  try refine wpAny_bind (wpAny_pure ?_)
  refine wpAny_bind (Z.search hx hu (fun hm r _ => ?_) fun K hm hK hb => ?_)
  · dsimp only
    exact wpAny_pure (q false s.heap L es ep t (Heap.SameBut.refl a s.heap) Z (fun _ => rfl) fun z => absurd hm z)
  · dsimp only
    refine wpAny_bind (wpAny_setState_of ho hd Z.fit ?_)
    dsimp only
    obtain ⟨p1, p2, p3, p4, p5, p6, p7, p8, p9⟩ := Z.tab.put hK hb
    generalize hpt : t.put (way t.mask (tH P w k) K) = pt at p1 p3 p4 p5 p6 p7 p8 p9 ⊢
    obtain ⟨t1, j⟩ := pt
    dsimp only at p1 p3 p4 p5 p6 p7 p8 p9 ⊢
    subst p1
    have fin : ∀ byv : Bool, wpAny (model P w) A (do
        storeSet a (SetTable.insertAt es (SetTable.below t.place (way t.mask (tH P w k) K)) (tH P w k, Value.ref x)) (if byv = true then t1 else { t1 with plain := false })
        if (!false && SetTable.tooFull (if byv = true then t1 else { t1 with plain := false })) = true then do
            setRelay a (SetTable.grown (es.size + 1))
            return true
          else return true) Q E s := by
      intro byv
      have hin : (SetTable.insertAt es (SetTable.below t.place (way t.mask (tH P w k) K)) (tH P w k, Value.ref x)).toList = es.toList.take (SetTable.below t.place (way t.mask (tH P w k) K)) ++ (tH P w k, Value.ref x) :: es.toList.drop (SetTable.below t.place (way t.mask (tH P w k) K)) := SetTable.toList_insertAt ..
      generalize hb' : SetTable.below t.place (way t.mask (tH P w k) K) = b at p2 p3 hin ⊢
      generalize SetTable.insertAt es b (tH P w k, Value.ref x) = es1 at hin ⊢
      have pm : es1.toList.Perm (((x, k) :: L).map (entT P w)) := by
        rw [hin, List.map_cons]
        refine List.perm_middle.trans (List.Perm.cons _ ?_)
        rw [List.take_append_drop]
        exact Z.ent
      have hh : es1.toList.map (·.1) = (es.toList.map (·.1)).take b ++ tH P w k :: (es.toList.map (·.1)).drop b := by
        rw [hin, List.map_append, List.map_cons, List.map_take, List.map_drop]
      rw [← hh] at p3
      have sz1 : es1.size = L.length + 1 := by
        have z := pm.length_eq
        rwa [List.length_map, Array.length_toList, List.length_cons] at z
      have hT : ∃ t2 : SetTable, (if byv = true then t1 else { t1 with plain := false }) = t2 ∧ TabOk t2 (es1.toList.map (·.1)) ∧ t2.mask = t.mask ∧ t2.led = t.led ∧ t2.tooFull = t1.tooFull := by
        cases byv with
        | true => exact ⟨t1, rfl, p3, p4, p5, rfl⟩
        | false => exact ⟨{ t1 with plain := false }, rfl, ⟨p3.ris, p3.dm, p3.sz, p3.mok, p3.bd, p3.reach⟩, p4, p5, rfl⟩
      obtain ⟨t2, e2, tab2, m2, l2, f2⟩ := hT
      rw [e2]
      have uni1 : (((x, k) :: L).map (·.2)).Nodup := List.nodup_cons.mpr ⟨hm, Z.uni⟩
      have led1 : w.params.followText "set-order" = true ∨ t2.led = true := by rw [l2]; exact Z.led
      refine wpAny_bind (wpAny_storeSet_of ho hd ?_ (by rw [sz1, sizeLine_eq]; omega))
      have ho1 := store_at (es' := es1) (t' := t2) ho hd
      have sb := Heap.SameBut.update s.heap a (Obj.putSet es1 t2)
      have key1 : ∀ p ∈ (x, k) :: L, tIs P w (s.heap.update a (Obj.putSet es1 t2)) p.2 p.1 := fun p hp => by
        rcases List.mem_cons.mp hp with rfl | hp
        · exact tis_same hx ho hd sb
        · exact tis_same (Z.key p hp) ho hd sb
      generalize s.heap.update a (Obj.putSet es1 t2) = h1 at ho1 sb key1 ⊢
      have lenc : ((x, k) :: L).length = L.length + 1 := rfl
      by_cases hf : t2.tooFull = true
      · refine wp_if_pos (by rw [hf]; rfl) ?_
        rw [f2] at hf
        have full : t1.mask * 3 ≤ (L.length + 1) * 5 := by
          have z := hf
          unfold SetTable.tooFull at z
          rw [decide_eq_true_eq, p9, List.length_map, Array.length_toList, len] at z
          exact z
        rw [p4] at full
        have two : (t.mask = 7 ∧ L.length = 4) ∨ (t.mask = 31 ∧ L.length = 18) := by
          rcases Z.tab.mok with e | e | e <;> rw [e] at full roomy
          · exact .inl ⟨e, by omega⟩
          · exact .inr ⟨e, by omega⟩
          · omega
        rw [len]
        have go : ∀ M, SetTable.sizeAbove (SetTable.grown (L.length + 1)) - 1 = M → MaskOk M → SetTable.sizeAbove (SetTable.grown (L.length + 1)) ≤ 128 → (L.length + 1) * 5 < M * 3 →
            wpAny (model P w) A (setRelay a (SetTable.grown (L.length + 1)) >>= fun _ => pure true) Q E { s with heap := h1 } := fun M z1 z2 z3 z4 => by
          refine wpAny_bind (relay_tup (s := { s with heap := h1 }) ho1 ⟨hex.1, hex.2.1, hex.2.2⟩ rfl pm tab2 (by rw [sz1, m2]; omega) uni1 key1 led1 (by rw [lenc]; exact few) z1 z2 z3 (by rw [lenc]; exact z4) fun h2 es2 ep2 t3 sb2 Z2 => ?_)
          exact wpAny_pure (q true h2 _ es2 ep2 t3 (sb.trans sb2) Z2 (fun z => absurd z hm) fun _ => rfl)
        rcases two with ⟨_, e⟩ | ⟨_, e⟩
        · exact go 31 (by rw [e, size_20]) (.inr (.inl rfl)) (by rw [e, size_20]; decide) (by omega)
        · exact go 127 (by rw [e, size_76]) (.inr (.inr rfl)) (by rw [e, size_76]; decide) (by omega)
      · refine wp_if_neg (by simp [hf]) ?_
        refine wpAny_pure (q true h1 _ es1 (ep + 1) t2 sb ⟨⟨_, ho1, ⟨hex.1, hex.2.1, hex.2.2⟩, rfl⟩, pm, tab2, uni1, key1, led1, ?_, by rw [lenc]; exact few⟩ (fun z => absurd z hm) fun _ => rfl)
        rw [f2] at hf
        unfold SetTable.tooFull at hf
        rw [decide_eq_true_eq, p9, List.length_map, Array.length_toList, len] at hf
        rw [lenc, m2]
        rw [p4] at hf
        omega
    by_cases hp : t1.plain = true
    · refine wp_if_pos hp (wpAny_bind (hash_tup hx fun byv => ?_))
      exact fin byv
    · refine wp_if_neg hp (wpAny_bind (wpAny_pure ?_))
      exact fin true
end
end O
set_option maxRecDepth 100000
set_option maxHeartbeats 3200000
/-! sets of whole numbers and texts -/
namespace O
open PySem PySem.Spec PyProof.Rows L2
section
variable {P : Program} {w : World} {A : Around} {E : Value → Shared → Prop} {s : Shared}
abbrev kIs (P : Program) (w : World) (k : Key) (v : Value) : Prop := (mixKind P w).is k v = true
def entK (P : Program) (w : World) (p : Value × Key) : Int × Value := ((mixKind P w).hash p.2, p.1)
theorem kis_scan {k : Key} {v : Value} (z : kIs P w k v) : v.scannable = true := by
  rcases keyIs_shape z with ⟨i, t, _, rfl⟩ | ⟨x, t, _, rfl⟩ <;> rfl
structure SW (P : Program) (w : World) (h : Heap) (a : Addr) (L : List (Value × Key)) (es : Array (Int × Value)) (ep : Nat) (t : SetTable) : Prop where
  obj : ∃ o, h.get? a = some o ∧ o.ExactSet ∧ o.data = .set es ep t
  ent : es.toList.Perm (L.map (entK P w))
  uni : (L.map (·.2)).Nodup
  key : ∀ p ∈ L, kIs P w p.2 p.1
  led : w.params.followText "set-order" = true ∨ t.led = true
  low : L.length < 64
  fit : t.fits es.size = true
  ris : Ris t.place.toList
variable {a : Addr} {L : List (Value × Key)} {es : Array (Int × Value)} {ep : Nat} {t : SetTable}
theorem SW.size {h : Heap} (Z : SW P w h a L es ep t) : es.size = L.length := by
  have q := Z.ent.length_eq
  rwa [List.length_map, Array.length_toList] at q
theorem elems_of {l : List (Int × Value)} {L : List (Value × Key)} (p : l.Perm (L.map (entK P w))) (key : ∀ p ∈ L, kIs P w p.2 p.1) : ElemsOf (mixKind P w) l := fun e he => by
  obtain ⟨q, hq, rfl⟩ := List.mem_map.mp (p.mem_iff.mp he)
  exact ⟨⟨q.2, key q hq, rfl⟩, kis_scan (key q hq)⟩
/-- laid, and laid anew where it is too full -/
theorem tail_put {g : Bool → Sem Unit} (hg : ∀ (b : Bool) (s₁ : Shared) (Q' : Unit → Shared → Prop), Q' () s₁ → wpAny (model P w) A (g b) Q' E s₁) {o : Obj} (ho : s.heap.get? a = some o) (hex : o.ExactSet) (hd : o.data = .set es ep t)
    {es1 : Array (Int × Value)} {t1 : SetTable} {wd : Bool} (ent : es1.toList.Perm (L.map (entK P w))) (uni : (L.map (·.2)).Nodup) (key : ∀ p ∈ L, kIs P w p.2 p.1) (led : w.params.followText "set-order" = true ∨ t1.led = true) (low : L.length < 64)
    (fit : t1.fits es1.size = true) (ris : Ris t1.place.toList) {R : Option Bool → Shared → Prop} (q : ∀ h' es' ep' t', Heap.SameBut a s.heap h' → SW P w h' a L es' ep' t' → R (some true) { s with heap := h' }) :
    wpAny (model P w) A (do
        storeSet a es1 t1
        if (!wd && t1.tooFull) = true then do
            g (relayAll t1 es1 (SetTable.grown es1.size)).2.2
            storeSet a (relayAll t1 es1 (SetTable.grown es1.size)).1 (relayAll t1 es1 (SetTable.grown es1.size)).2.1
            pure (some true)
          else pure (some true)) R E s := by
  have sz : es1.size = L.length := by
    have z := ent.length_eq
    rwa [List.length_map, Array.length_toList] at z
  have lo : es1.size ≤ sizeLine := by rw [sz, sizeLine_eq]; omega
  refine wpAny_bind (wpAny_storeSet_of ho hd ?_ lo)
  have ho1 := store_at (es' := es1) (t' := t1) ho hd
  have sb1 := Heap.SameBut.update s.heap a (Obj.putSet es1 t1)
  by_cases c : (!wd && t1.tooFull) = true
  · refine wp_if_pos c ?_
    have r1 := relayAll_perm t1 es1 (SetTable.grown es1.size)
    have r2 := relayAll_fits t1 es1 (SetTable.grown es1.size)
    have r3 := relayAll_ris t1 es1 (SetTable.grown es1.size)
    have r4 := relayAll_led t1 es1 (SetTable.grown es1.size)
    generalize relayAll t1 es1 (SetTable.grown es1.size) = X at r1 r2 r3 r4 ⊢
    obtain ⟨es2, t2, gv⟩ := X
    dsimp only at r1 r2 r3 r4 ⊢
    have sz2 : es2.size = es1.size := by rw [← Array.length_toList, r1.length_eq, Array.length_toList]
    refine wpAny_bind (hg gv _ _ ?_)
    refine wpAny_bind (wpAny_storeSet_of ho1 rfl ?_ (by rw [sz2]; exact lo))
    have ho2 := store_at (es' := es2) (t' := t2) ho1 rfl
    refine wpAny_pure (q _ es2 _ t2 (sb1.trans (Heap.SameBut.update _ a _)) ⟨⟨_, ho2, hex, rfl⟩, r1.trans ent, uni, key, ?_, low, r2, r3⟩)
    rw [r4]
    exact led
  · refine wp_if_neg c ?_
    exact wpAny_pure (q _ es1 _ t1 sb1 ⟨⟨_, ho1, hex, rfl⟩, ent, uni, key, led, low, fit, ris⟩)
theorem SW.add (Z : SW P w s.heap a L es ep t) {v : Value} {k : Key} (hx : kIs P w k v) (few : L.length + 1 < 64) {Q : Bool → Shared → Prop}
    (q : ∀ b h' L' es' ep' t', Heap.SameBut a s.heap h' → SW P w h' a L' es' ep' t' → (k ∈ L.map (·.2) → L' = L) → (k ∉ L.map (·.2) → L' = (v, k) :: L) → Q b { s with heap := h' }) :
    wpAny (model P w) A (setAddHashed a v ((mixKind P w).hash k)) Q E s := by
  obtain ⟨o, ho, hex, hd⟩ := Z.obj
  have len := Z.size
  have sc := kis_scan hx
  have el := elems_of Z.ent Z.key
  have sbd : (64 : Nat) < scanBound := by decide
  unfold setAddHashed setAddHashedIn
  refine wpAny_holding (wpAny_bind (wpAny_setState_of ho hd Z.fit ?_))
  dsimp only
  rw [byScan_of sc (by have := Z.low; omega) el, if_pos rfl]
  unfold setAddByScan
  refine wpAny_bind (wpAny_bind (wpAny_rule ?_))
  refine wpAny_bind (wpAny_setScan_of hx ho hd Z.fit el ?_)
  cases hfi : es.toList.findIdx? (fun e => (mixKind P w).is k e.2) with
  | some j =>
    dsimp only
    obtain ⟨hj, pj, _⟩ := List.findIdx?_eq_some_iff_getElem.mp hfi
    obtain ⟨p, hp, e⟩ := List.mem_map.mp (Z.ent.mem_iff.mp (List.getElem_mem hj))
    have hm : k ∈ L.map (·.2) := by
      refine List.mem_map.mpr ⟨p, hp, ?_⟩
      have pj' : kIs P w k p.1 := by
        have z : (entK P w p).2 = es.toList[j].2 := congrArg Prod.snd e
        show (mixKind P w).is k p.1 = true
        rw [show p.1 = es.toList[j].2 from z]
        exact pj
      exact (mixKind P w).inj _ _ _ (Z.key p hp) pj'
    exact wpAny_pure (wpAny_pure (q false s.heap L es ep t (Heap.SameBut.refl a s.heap) Z (fun _ => rfl) fun z => absurd hm z))
  | none =>
    dsimp only
    have hm : k ∉ L.map (·.2) := fun z => by
      obtain ⟨p, hp, e⟩ := List.mem_map.mp z
      have he : entK P w p ∈ es.toList := Z.ent.mem_iff.mpr (List.mem_map.mpr ⟨p, hp, rfl⟩)
      have c := List.findIdx?_eq_none_iff.mp hfi _ he
      have kp := Z.key p hp
      rw [e] at kp
      have c' : (mixKind P w).is k p.1 = false := c
      rw [show (mixKind P w).is k p.1 = true from kp] at c'
      cases c'
    have gw : ∀ (b : Bool) (s₁ : Shared) (Q' : Unit → Shared → Prop), Q' () s₁ → wpAny (model P w) A (match b with | true => rule "set.scan.the-table-gave-way" | false => pure ()) Q' E s₁ :=
      fun b s₁ Q' z => by cases b with
        | true => exact wpAny_rule z
        | false => exact wpAny_pure z
    have r1 := layNew_perm t es ((mixKind P w).hash k) v
    have r2 := layNew_fits t es ((mixKind P w).hash k) v
    have r3 := layNew_ris t es ((mixKind P w).hash k) v Z.ris
    have r4 := layNew_led t es ((mixKind P w).hash k) v
    generalize layNew t es ((mixKind P w).hash k) v = X at r1 r2 r3 r4 ⊢
    obtain ⟨es1, t1, wd, gv⟩ := X
    dsimp only at r1 r2 r3 r4 ⊢
    rw [Array.toList_push] at r1
    have ent1 : es1.toList.Perm (((v, k) :: L).map (entK P w)) := by
      rw [List.map_cons]
      exact (r1.trans (List.perm_append_singleton _ _)).trans (List.Perm.cons _ Z.ent)
    have uni1 : (((v, k) :: L).map (·.2)).Nodup := List.nodup_cons.mpr ⟨hm, Z.uni⟩
    have key1 : ∀ p ∈ (v, k) :: L, kIs P w p.2 p.1 := fun p hp => by
      rcases List.mem_cons.mp hp with rfl | hp
      · exact hx
      · exact Z.key p hp
    have led1 : w.params.followText "set-order" = true ∨ t1.led = true := by rw [r4]; exact Z.led
    have low1 : ((v, k) :: L).length < 64 := few
    have fin : ∀ byv : Bool, wpAny (model P w) A (do
        storeSet a es1 (if byv = true then t1 else { t1 with plain := false })
        if (!wd && SetTable.tooFull (if byv = true then t1 else { t1 with plain := false })) = true then do
            (match (relayAll (if byv = true then t1 else { t1 with plain := false }) es1 (SetTable.grown es1.size)).2.2 with | true => rule "set.scan.the-table-gave-way" | false => pure ())
            storeSet a (relayAll (if byv = true then t1 else { t1 with plain := false }) es1 (SetTable.grown es1.size)).1 (relayAll (if byv = true then t1 else { t1 with plain := false }) es1 (SetTable.grown es1.size)).2.1
            pure (some true)
          else pure (some true)) (fun r s' => wpAny (model P w) A (match r with | some added => pure added | none => setAddHashedIn a v ((mixKind P w).hash k) 99999) Q E s') E s := by
      intro byv
      have hT : ∃ t2 : SetTable, (if byv = true then t1 else { t1 with plain := false }) = t2 ∧ t2.fits es1.size = true ∧ Ris t2.place.toList ∧ t2.led = t1.led := by
        cases byv with
        | true => exact ⟨t1, rfl, r2, r3, rfl⟩
        | false => exact ⟨{ t1 with plain := false }, rfl, SetTable.fits_plain_off r2, r3, rfl⟩
      obtain ⟨t2, e2, f2, ris2, l2⟩ := hT
      rw [e2]
      refine tail_put (L := (v, k) :: L) gw ho hex hd ent1 uni1 key1 (by rw [l2]; exact led1) low1 f2 ris2 fun h' es' ep' t' sb Z' => ?_
      exact wpAny_pure (q true h' _ es' ep' t' sb Z' (fun z => absurd z hm) fun _ => rfl)
    refine wpAny_bind (gw gv _ _ ?_)
    by_cases hp : t1.plain = true
    · refine wp_if_pos hp (wpAny_bind ?_)
      rw [hashByValue_scannable 8 sc]
      exact wpAny_pure (fin _)
    · refine wp_if_neg hp (wpAny_bind (wpAny_pure ?_))
      exact fin true
end
end O
set_option maxRecDepth 100000
set_option maxHeartbeats 3200000
/-! set(xs) of keys, in general -/
namespace O
open PySem PySem.Spec PyProof.Rows L2
/-- a way of keeping keys in a set -/
structure SetK (P : Program) (w : World) (κ : Type) [DecidableEq κ] where
  is : Heap → κ → Value → Prop
  ok : Heap → Addr → List (Value × κ) → Prop
  uni : ∀ {h : Heap} {a : Addr} {L}, ok h a L → (L.map (·.2)).Nodup
  low : ∀ {h : Heap} {a : Addr} {L}, ok h a L → L.length < 64
  body : ∀ {h : Heap} {a : Addr} {L}, ok h a L → ∃ o es ep t, h.get? a = some o ∧ o.ExactSet ∧ o.data = .set es ep t ∧ (es.toList.map (·.2)).Perm (L.map (·.1)) ∧ t.fits es.size = true ∧ es.size < scanBound ∧ Ris t.place.toList ∧ (w.params.followText "set-order" = true ∨ t.led = true)
  isKeep : ∀ {h h' : Heap} {k : κ} {v : Value}, is h k v → (∀ b o, h.get? b = some o → h'.get? b = some o) → is h' k v
  okAt : ∀ {h h' : Heap} {a : Addr} {L}, ok h a L → (∀ o, h.get? a = some o → h'.get? a = some o) → (∀ p ∈ L, is h' p.2 p.1) → ok h' a L
  mem : ∀ {h : Heap} {a : Addr} {L}, ok h a L → ∀ p ∈ L, is h p.2 p.1
  okNew : ∀ {h : Heap} {a : Addr}, h.get? a = some (eSet w) → ok h a []
  isSame : ∀ {h h' : Heap} {a : Addr} {L} {k : κ} {v : Value}, ok h a L → is h k v → Heap.SameBut a h h' → is h' k v
  add : ∀ {A : Around} {E : Value → Shared → Prop} {s : Shared} {a : Addr} {L} {k : κ} {v : Value} {Q : Bool → Shared → Prop}, A.units < cLine → ok s.heap a L → L.length + 1 < 64 → is s.heap k v →
    (∀ b h' tk L', Heap.SameBut a s.heap h' → ok h' a L' → (k ∈ L.map (·.2) → L' = L) → (k ∉ L.map (·.2) → L' = (v, k) :: L) → s.toks ≤ tk → Q b { s with heap := h', toks := tk }) → wpAny (model P w) A (setAdd a v) Q E s
section
variable {P : Program} {w : World} {A : Around} {E : Value → Shared → Prop} {s : Shared}
def scanSet (P : Program) (w : World) : SetK P w Key where
  is := fun _ k v => kIs P w k v
  ok := fun h a L => ∃ es ep t, SW P w h a L es ep t
  uni := fun ⟨_, _, _, Z⟩ => Z.uni
  low := fun ⟨_, _, _, Z⟩ => Z.low
  body := fun ⟨es, ep, t, Z⟩ => by
    obtain ⟨o, ho, hx, hd⟩ := Z.obj
    refine ⟨o, es, ep, t, ho, hx, hd, ?_, Z.fit, ?_, Z.ris, Z.led⟩
    · have q := Z.ent.map (·.2)
      rwa [List.map_map] at q
    · have z1 := Z.size
      have z2 := Z.low
      have z3 : (64 : Nat) < scanBound := by decide
      omega
  isKeep := fun z _ => z
  okAt := fun ⟨es, ep, t, Z⟩ k _ => ⟨es, ep, t, let ⟨o, ho, r⟩ := Z.obj; ⟨⟨o, k _ ho, r⟩, Z.ent, Z.uni, Z.key, Z.led, Z.low, Z.fit, Z.ris⟩⟩
  mem := fun ⟨_, _, _, Z⟩ => Z.key
  okNew := fun ho => ⟨_, _, _, ⟨⟨_, ho, ⟨rfl, rfl, rfl⟩, rfl⟩, .nil, .nil, (fun p hp => by cases hp), by
    show _ ∨ (!w.params.followText "set-order") = true
    cases w.params.followText "set-order"
    · exact .inr rfl
    · exact .inl rfl, by decide, by rfl, List.Pairwise.nil⟩⟩
  isSame := fun _ z _ => z
  add := by
    rintro A E s a L k v Q hu ⟨es, ep, t, Z⟩ few hx q
    unfold setAdd
    refine wpAny_holding (wpAny_bind ((mixKind P w).pyHash hx ?_))
    exact SW.add (s := { s with toks := s.toks + 1 }) Z hx few fun b h' L' es' ep' t' sb Z' y n => q b h' _ L' sb ⟨es', ep', t', Z'⟩ y n (Nat.le_succ _)
theorem tab_new (l : Bool) : TabOk (.fresh 0 0 l) [] where
  ris := List.Pairwise.nil
  dm := rfl
  sz := rfl
  mok := .inl rfl
  bd := fun x hx => by cases hx
  reach := fun i h j z => by cases z
def unref (L : List (Value × List Key)) (M : List (Addr × List Key)) : Prop := L = M.map fun p => (Value.ref p.1, p.2)
def tupSet (P : Program) (w : World) : SetK P w (List Key) where
  is := fun h k v => ∃ x, v = .ref x ∧ tIs P w h k x
  ok := fun h a L => ∃ M es ep t, unref L M ∧ TW P w h a M es ep t
  uni := by
    rintro h a L ⟨M, es, ep, t, rfl, Z⟩
    rw [List.map_map]
    exact Z.uni
  low := by
    rintro h a L ⟨M, es, ep, t, rfl, Z⟩
    rw [List.length_map]
    exact Z.low
  body := by
    rintro h a L ⟨M, es, ep, t, rfl, Z⟩
    obtain ⟨o, ho, hx, hd⟩ := Z.obj
    refine ⟨o, es, ep, t, ho, hx, hd, ?_, Z.fit, ?_, Z.tab.ris, Z.led⟩
    · have q := Z.ent.map (·.2)
      rw [List.map_map] at q
      rw [List.map_map]
      exact q
    · have z1 := Z.size
      have z2 := Z.low
      have z3 : (64 : Nat) < scanBound := by decide
      omega
  isKeep := fun ⟨x, e, o, its, n, ho, r⟩ k => ⟨x, e, o, its, n, k _ _ ho, r⟩
  okAt := by
    rintro h h' a L ⟨M, es, ep, t, rfl, Z⟩ k m
    obtain ⟨o, ho, r⟩ := Z.obj
    refine ⟨M, es, ep, t, rfl, ⟨⟨o, k _ ho, r⟩, Z.ent, Z.tab, Z.uni, fun p hp => ?_, Z.led, Z.roomy, Z.low⟩⟩
    obtain ⟨x, e, z⟩ := m _ (List.mem_map.mpr ⟨p, hp, rfl⟩)
    injection e with e
    rw [e]
    exact z
  mem := by
    rintro h a L ⟨M, es, ep, t, rfl, Z⟩ p hp
    obtain ⟨q, hq, rfl⟩ := List.mem_map.mp hp
    exact ⟨q.1, rfl, Z.key q hq⟩
  okNew := fun ho => ⟨[], _, _, _, rfl, ⟨⟨_, ho, ⟨rfl, rfl, rfl⟩, rfl⟩, .nil, tab_new _, .nil, (fun p hp => by cases hp), by
    show _ ∨ (!w.params.followText "set-order") = true
    cases w.params.followText "set-order"
    · exact .inr rfl
    · exact .inl rfl, by show 0 * 5 < 7 * 3; decide, by decide⟩⟩
  isSame := fun ⟨M, es, ep, t, u, Z⟩ ⟨x, e, z⟩ sb => let ⟨o, ho, _, hd⟩ := Z.obj; ⟨x, e, tis_same z ho hd sb⟩
  add := by
    rintro A E s a L k v Q hu ⟨M, es, ep, t, rfl, Z⟩ few ⟨x, rfl, hx⟩ q
    have ek : (M.map fun p => (Value.ref p.1, p.2)).map (·.2) = M.map (·.2) := by rw [List.map_map]; rfl
    rw [List.length_map] at few
    unfold setAdd
    refine wpAny_holding (wpAny_bind (wpAny_pyHash_tuple hu hx ?_))
    refine TW.add (s := { s with toks := s.toks + (k.length + 1) }) Z hx hu few fun b h' L' es' ep' t' sb Z' y n => q b h' _ _ sb ⟨L', es', ep', t', rfl, Z'⟩ (fun m => ?_) (fun m => ?_) (Nat.le_add_right _ _)
    · rw [ek] at m
      rw [y m]
    · rw [ek] at m
      rw [n m]
      rfl
/-! ### one after the other -/
section
variable {κ : Type} [DecidableEq κ] (Y : SetK P w κ)
def addK (L : List (Value × κ)) (p : Value × κ) : List (Value × κ) := if p.2 ∈ L.map (·.2) then L else p :: L
def allK (ps : List (Value × κ)) : List (Value × κ) := ps.foldl addK []
theorem addK_len (L : List (Value × κ)) (p : Value × κ) : (addK L p).length ≤ L.length + 1 := by
  unfold addK
  split <;> simp
theorem foldK_len : ∀ (ps L : List (Value × κ)), (ps.foldl addK L).length ≤ L.length + ps.length
  | [], L => Nat.le_refl _
  | p :: ps, L => by
    have h1 := foldK_len ps (addK L p)
    have h2 := addK_len L p
    rw [List.foldl_cons, List.length_cons]
    omega
theorem allK_next {ps : List (Value × κ)} {i : Nat} {p : Value × κ} (h : ps[i]? = some p) : allK (ps.take (i + 1)) = addK (allK (ps.take i)) p := by
  unfold allK
  rw [List.take_add_one, h, Option.toList_some, List.foldl_append]
  rfl
theorem addK_sub {ps : List (Value × κ)} : ∀ {L : List (Value × κ)}, (∀ q ∈ L, q ∈ ps) → ∀ {p}, p ∈ ps → ∀ q ∈ addK L p, q ∈ ps := by
  intro L h p hp q hq
  unfold addK at hq
  split at hq
  · exact h q hq
  · rcases List.mem_cons.mp hq with rfl | hq
    · exact hp
    · exact h q hq
theorem foldK_sub {ps : List (Value × κ)} : ∀ (qs : List (Value × κ)) {L : List (Value × κ)}, (∀ q ∈ L, q ∈ ps) → (∀ q ∈ qs, q ∈ ps) → ∀ q ∈ qs.foldl addK L, q ∈ ps
  | [], _, h, _ => h
  | r :: qs, _, h, g => foldK_sub qs (addK_sub h (g r List.mem_cons_self)) fun q hq => g q (List.mem_cons_of_mem _ hq)
theorem allK_sub {ps : List (Value × κ)} {i : Nat} : ∀ q ∈ allK (ps.take i), q ∈ ps := foldK_sub (ps.take i) (fun q hq => by cases hq) fun q hq => List.mem_of_mem_take hq
theorem keyLoop {I : Addr} {fp wr : List Addr} {G : Array GenState → Array GenState → Prop} {n : Nat} {Pv : Nat → Value → Prop} {St : Nat → Shared → Prop} {R : Result → Shared → Prop}
    (W : WalksS P w A.in1 I fp wr G n Pv St) (hu : A.in1.units < cLine) (S : Addr) (hSf : S ∉ fp) (ps : List (Value × κ)) (hval : ∀ i v, Pv i v → ∃ k, ps[i]? = some (v, k)) (few : ps.length < 64) {h0 : Heap}
    (stay : ∀ p ∈ ps, ∀ h', (∀ b o, b ∉ S :: wr → h0.get? b = some o → h'.get? b = some o) → Y.is h' p.2 p.1) :
    ∀ (m i : Nat) (s : Shared), n - i = m → i ≤ n → St i s → (∀ b o, b ∉ S :: wr → h0.get? b = some o → s.heap.get? b = some o) → Y.ok s.heap S (allK (ps.take i)) →
      (∀ s', Moved (S :: wr) G s s' → Y.ok s'.heap S (allK (ps.take n)) → R (.ok (.ret .none)) s') → codeAny (model P w) A (.builtin "set.update.loop" ⟨[.ref S, .ref I], []⟩) R s := by
  have hSw : S ∉ wr := fun h => hSf (W.sub _ h)
  have inc : ∀ b ∈ wr, b ∈ S :: wr := fun b hb => List.mem_cons_of_mem _ hb
  intro m
  induction m with
  | zero =>
    intro i s hm hi hst kp hS hR
    obtain rfl : i = n := by omega
    refine codeAny_builtin F.entry_set_update_loop ?_
    rw [Around.under_plainId F.plain_set_update_loop _]
    show wpAny _ A.in1 (pyNext (.ref I) >>= _) _ _ s
    refine wpAny_bind (W.done s _ _ hst fun s' mv => ?_)
    show wpAny _ A.in1 (ret Value.none) _ _ s'
    have kp' : ∀ b o, b ∉ S :: wr → h0.get? b = some o → s'.heap.get? b = some o := fun b o hb e => mv.heap b o (fun z => hb (inc b z)) (kp b o hb e)
    exact wpAny_pure (hR s' (mv.mono inc) (Y.okAt hS (fun o e => mv.heap S o hSw e) fun p hp => stay p (allK_sub p hp) _ kp'))
  | succ m ih =>
    intro i s hm hi hst kp hS hR
    have hlt : i < n := by omega
    refine codeAny_builtin F.entry_set_update_loop ?_
    rw [Around.under_plainId F.plain_set_update_loop _]
    show wpAny _ A.in1 (pyNext (.ref I) >>= _) _ _ s
    refine wpAny_bind (W.item i s _ _ hlt hst fun v s' hP hst' mv => ?_)
    obtain ⟨k, hx⟩ := hval i v hP
    have kp' : ∀ b o, b ∉ S :: wr → h0.get? b = some o → s'.heap.get? b = some o := fun b o hb e => mv.heap b o (fun z => hb (inc b z)) (kp b o hb e)
    have hS' : Y.ok s'.heap S (allK (ps.take i)) := Y.okAt hS (fun o e => mv.heap S o hSw e) fun p hp => stay p (allK_sub p hp) _ kp'
    have hkx : Y.is s'.heap k v := stay (v, k) (List.mem_of_getElem? hx) _ kp'
    have hl : (allK (ps.take i)).length + 1 < 64 := by
      have z1 := foldK_len (ps.take i) []
      have z2 : i < ps.length := (List.getElem?_eq_some_iff.mp hx).1
      rw [List.length_take] at z1
      simp only [List.length_nil] at z1
      show ((ps.take i).foldl addK []).length + 1 < 64
      omega
    show wpAny _ A.in1 (holding [v] (setAdd S v) >>= _) _ _ s'
    refine wpAny_bind (wpAny_holding ?_)
    refine Y.add hu hS' hl hkx fun b h' tk L' sb hL y1 y2 htk => ?_
    have hS2 : Y.ok h' S (allK (ps.take (i + 1))) := by
      rw [allK_next hx]
      unfold addK
      by_cases q : k ∈ (allK (ps.take i)).map (·.2)
      · rw [if_pos q, ← y1 q]
        exact hL
      · rw [if_neg q, ← y2 q]
        exact hL
    refine wpAny_pure ⟨plainId_quiet F.plain_set_update_loop _, ih (i + 1) _ (by omega) hlt (W.frame _ s' _ _ hst' htk fun b hb o e => ?_) (fun b o hb e => ?_) hS2 fun s2 mv2 hS3 => ?_⟩
    · rw [sb.2 b fun z : b = S => hSf (by rw [← z]; exact hb)]
      exact e
    · have hbS : b ≠ S := fun z => hb (by rw [z]; exact List.mem_cons_self)
      rw [sb.2 b hbS]
      exact kp' b o hb e
    · refine hR s2 (Moved.trans W.gtrans ((mv.mono inc).then_heap htk fun b o hb e => ?_) mv2) hS3
      rw [sb.2 b fun z : b = S => hb (by rw [z]; exact List.mem_cons_self)]
      exact e
end
end
end O
set_option maxRecDepth 100000
set_option maxHeartbeats 3200000
/-! keys as data, and their order -/
namespace O
open PySem PySem.Spec PyProof.Rows L2
def encT (k : List Key) : D := .tuple (k.map encK)
theorem toks_inj : ∀ {a b : Key}, PySem.W.keyToks (encK a) = PySem.W.keyToks (encK b) → a = b
  | .inl i, .inl j, h => by simp [encK, PySem.W.keyToks] at h; rw [h]
  | .inl i, .inr y, h => by simp [encK, PySem.W.keyToks] at h
  | .inr x, .inl j, h => by simp [encK, PySem.W.keyToks] at h
  | .inr x, .inr y, h => by
    simp [encK, PySem.W.keyToks] at h
    rw [PySem.W.str_of_cps (congrArg Array.toList h)]
theorem toksAll_inj : ∀ {a b : List Key}, PySem.W.keyToksAll (a.map encK) = PySem.W.keyToksAll (b.map encK) → a = b
  | [], [], _ => rfl
  | [], y :: ys, h => by simp [PySem.W.keyToksAll] at h
  | x :: xs, [], h => by simp [PySem.W.keyToksAll] at h
  | x :: xs, y :: ys, h => by
    have e : ∀ (z : Key) (zs : List Key), PySem.W.keyToksAll ((z :: zs).map encK) = .inl 1 :: (PySem.W.keyToks (encK z) ++ PySem.W.keyToksAll (zs.map encK)) := fun z zs => by rw [List.map_cons, PySem.W.keyToksAll]
    rw [e, e] at h
    have h2 := (List.cons.inj h).2
    have l1 : ∀ z : Key, (PySem.W.keyToks (encK z)).length = 1 := fun z => by cases z <;> simp [encK, PySem.W.keyToks]
    obtain ⟨h3, h4⟩ := List.append_inj h2 (by rw [l1, l1])
    rw [toks_inj h3, toksAll_inj h4]
/-- a row of data that can be told apart and put in order -/
structure Ord (κ : Type) where
  enc : κ → D
  toks : ∀ {a b}, PySem.W.keyToks (enc a) = PySem.W.keyToks (enc b) → a = b
def ordK : Ord Key := ⟨encK, toks_inj⟩
def ordT : Ord (List Key) := ⟨encT, fun {a b} h => toksAll_inj (by simpa [encT, PySem.W.keyToks] using h)⟩
def dLt (a b : D) : Bool := PySem.W.dataLt a b
theorem dLt_irr (a : D) : dLt a a = false := PyProof.Rows.lex_irrefl _
theorem dLt_trans {a b c : D} (h : dLt a b = true) (g : dLt b c = true) : dLt a c = true := PyProof.Rows.lex_trans (O := PyProof.Rows.itemOrd) _ _ _ h g
theorem dLt_asymm {a b : D} (h : dLt a b = true) : dLt b a = false := by
  cases q : dLt b a with
  | false => rfl
  | true =>
    have := dLt_trans h q
    rw [dLt_irr] at this
    cases this
section
variable {κ : Type} (O : Ord κ)
theorem Ord.tri {a b : κ} (h : dLt (O.enc a) (O.enc b) = false) (g : dLt (O.enc b) (O.enc a) = false) : a = b := O.toks (PyProof.Rows.lex_total (O := PyProof.Rows.itemOrd) _ _ h g)
/-- in order, each once -/
def insU (k : κ) : List κ → List κ
  | [] => [k]
  | j :: js => if dLt (O.enc k) (O.enc j) then k :: j :: js else if dLt (O.enc j) (O.enc k) then j :: insU k js else j :: js
def sortU (ks : List κ) : List κ := ks.foldr (insU O) []
def AscU (l : List κ) : Prop := l.Pairwise fun a b => dLt (O.enc a) (O.enc b) = true
theorem insU_mem {k x : κ} : ∀ {l : List κ}, x ∈ insU O k l ↔ x = k ∨ x ∈ l
  | [] => by simp [insU]
  | j :: js => by
    unfold insU
    split
    · simp
    · split
      · rw [List.mem_cons, insU_mem, List.mem_cons]
        exact ⟨fun h => by rcases h with h | h | h <;> simp [h], fun h => by rcases h with h | h | h <;> simp [h]⟩
      · rename_i h1 h2
        have e : k = j := O.tri (by simpa using h1) (by simpa using h2)
        subst e
        simp
theorem insU_asc {k : κ} : ∀ {l : List κ}, AscU O l → AscU O (insU O k l)
  | [], _ => by simp [insU, AscU]
  | j :: js, h => by
    obtain ⟨h1, h2⟩ := List.pairwise_cons.mp h
    unfold insU
    split
    · rename_i hkj
      refine List.pairwise_cons.mpr ⟨fun y hy => ?_, h⟩
      rcases List.mem_cons.mp hy with rfl | hy
      · exact hkj
      · exact dLt_trans hkj (h1 y hy)
    · split
      · rename_i hjk
        refine List.pairwise_cons.mpr ⟨fun y hy => ?_, insU_asc h2⟩
        rcases (insU_mem O).mp hy with rfl | hy
        · exact hjk
        · exact h1 y hy
      · exact h
theorem sortU_asc (ks : List κ) : AscU O (sortU O ks) := by
  induction ks with
  | nil => exact .nil
  | cons k ks ih => exact insU_asc O ih
theorem sortU_mem {ks : List κ} {x : κ} : x ∈ sortU O ks ↔ x ∈ ks := by
  induction ks with
  | nil => simp [sortU]
  | cons k ks ih =>
    show x ∈ insU O k (sortU O ks) ↔ _
    rw [insU_mem, ih, List.mem_cons]
theorem asc_unique : ∀ {xs ys : List κ}, AscU O xs → AscU O ys → (∀ k, k ∈ xs ↔ k ∈ ys) → xs = ys
  | [], [], _, _, _ => rfl
  | [], y :: ys, _, _, h => absurd ((h y).2 List.mem_cons_self) (by simp)
  | x :: xs, [], _, _, h => absurd ((h x).1 List.mem_cons_self) (by simp)
  | x :: xs, y :: ys, a, b, h => by
    obtain ⟨a1, a2⟩ := List.pairwise_cons.mp a
    obtain ⟨b1, b2⟩ := List.pairwise_cons.mp b
    have e : x = y := by
      rcases List.mem_cons.mp ((h x).1 List.mem_cons_self) with e | hx
      · exact e
      · rcases List.mem_cons.mp ((h y).2 List.mem_cons_self) with e | hy
        · exact e.symm
        · have z := dLt_asymm (a1 y hy)
          rw [b1 x hx] at z
          cases z
    subst e
    rw [asc_unique a2 b2 fun k => ⟨fun hk => ?_, fun hk => ?_⟩]
    · rcases List.mem_cons.mp ((h k).1 (List.mem_cons_of_mem _ hk)) with e | z
      · subst e
        have := a1 k hk
        rw [dLt_irr] at this
        cases this
      · exact z
    · rcases List.mem_cons.mp ((h k).2 (List.mem_cons_of_mem _ hk)) with e | z
      · subst e
        have := b1 k hk
        rw [dLt_irr] at this
        cases this
      · exact z
/-- what list.sort makes of different keys -/
theorem merge_is {ks : List κ} {ds : List κ} (nd : ds.Nodup) (hm : ∀ k, k ∈ ds ↔ k ∈ ks) : ds.mergeSort (PySem.W.dataLe false O.enc) = sortU O ks := by
  have le : ∀ a b, PySem.W.dataLe false O.enc a b = !dLt (O.enc b) (O.enc a) := fun a b => by rw [PySem.W.dataLe_eq]; rfl
  have tr : ∀ a b c : κ, PySem.W.dataLe false O.enc a b = true → PySem.W.dataLe false O.enc b c = true → PySem.W.dataLe false O.enc a c = true := fun a b c h g => by
    rw [le] at h g ⊢
    cases q : dLt (O.enc c) (O.enc a) with
    | false => rfl
    | true =>
      exfalso
      have h' : dLt (O.enc b) (O.enc a) = false := by simpa using h
      have g' : dLt (O.enc c) (O.enc b) = false := by simpa using g
      cases r : dLt (O.enc b) (O.enc c) with
      | true =>
        have z := dLt_trans r q
        rw [h'] at z
        cases z
      | false =>
        have e := O.tri r g'
        subst e
        rw [h'] at q
        cases q
  have tot : ∀ a b : κ, (PySem.W.dataLe false O.enc a b || PySem.W.dataLe false O.enc b a) = true := fun a b => by
    rw [le, le]
    cases q : dLt (O.enc b) (O.enc a) with
    | false => rfl
    | true => rw [dLt_asymm q]; rfl
  have so := List.pairwise_mergeSort tr tot ds
  have pm := List.mergeSort_perm ds (PySem.W.dataLe false O.enc)
  refine asc_unique O ?_ (sortU_asc O ks) fun k => by rw [pm.mem_iff, hm, sortU_mem]
  refine (List.Pairwise.and so (pm.nodup_iff.mpr nd)).imp fun {a b} ⟨h, ne⟩ => ?_
  cases q : dLt (O.enc a) (O.enc b) with
  | true => rfl
  | false =>
    rw [le] at h
    exact absurd (O.tri q (by simpa using h)) ne
end
end O
set_option maxRecDepth 100000
set_option maxHeartbeats 3200000
/-! sorted(a set of keys) -/
namespace O
open PySem PySem.Spec PyProof.Rows L2
theorem perm_map_inv {α β : Type} (f : α → β) : ∀ {l : List β} {L : List α}, l.Perm (L.map f) → ∃ L' : List α, L'.Perm L ∧ L'.map f = l := by
  intro l L h
  generalize hm : L.map f = m at h
  induction h generalizing L with
  | nil =>
    cases L with
    | nil => exact ⟨[], .refl _, rfl⟩
    | cons => cases hm
  | cons x _ ih =>
    cases L with
    | nil => cases hm
    | cons a L =>
      obtain ⟨h1, h2⟩ := List.cons.inj hm
      obtain ⟨L', p, e⟩ := ih h2
      exact ⟨a :: L', p.cons a, by rw [List.map_cons, h1, e]⟩
  | swap x y l =>
    cases L with
    | nil => cases hm
    | cons a L =>
      cases L with
      | nil => cases hm
      | cons b L =>
        obtain ⟨h1, h2⟩ := List.cons.inj hm
        obtain ⟨h3, h4⟩ := List.cons.inj h2
        exact ⟨b :: a :: L, List.Perm.swap _ _ _, by rw [List.map_cons, List.map_cons, h1, h3, h4]⟩
  | trans _ _ ih1 ih2 =>
    obtain ⟨L1, p1, e1⟩ := ih2 hm
    obtain ⟨L2, p2, e2⟩ := ih1 e1
    exact ⟨L2, p2.trans p1, e2⟩
theorem each_of_map2 {α β : Type} {R : α → β → Prop} : ∀ {L : List (α × β)}, (∀ p ∈ L, R p.1 p.2) → PySem.W.EachIs R (L.map (·.1)) (L.map (·.2))
  | [], _ => .nil
  | p :: L, h => .cons (h p List.mem_cons_self) (each_of_map2 fun q hq => h q (List.mem_cons_of_mem _ hq))
section
variable {P : Program} {w : World} {A : Around} {E : Value → Shared → Prop} {s : Shared} {κ : Type} [DecidableEq κ] (Y : SetK P w κ) (O : Ord κ)
theorem sorted_setK {a : Addr} {L : List (Value × κ)} {ks : List κ} {Q : Value → Shared → Prop} (hh : A.handled = none) (hu : A.units + 80 < cLine) (Z : Y.ok s.heap a L) (hm : ∀ k, k ∈ L.map (·.2) ↔ k ∈ ks) (rd : ∀ p ∈ L, ∃ as, Reads s.heap p.1 (O.enc p.2) as)
    (al : ∀ p ∈ L, ∀ q ∈ L, PySem.W.alike (O.enc p.2) (O.enc q.2) = true) (so : PySem.W.Sortable (L.map fun p => O.enc p.2)) (dp : ∀ p ∈ L, (O.enc p.2).depth ≤ 40)
    (q : ∀ s' p (out : List Value) (n : Nat), (∀ b o, s.heap.get? b = some o → s'.heap.get? b = some o) → s'.gens = s.gens → s'.os = s.os → s.heap.objs.size ≤ p → s'.heap.get? p = some (seqObj "list" out.toArray n) →
      PySem.W.EachIs (fun v k => (v, k) ∈ L) out (sortU O ks) → Q (.ref p) s') :
    wpAny (model P w) A (call (.builtin "sorted") [.ref a]) Q E s := by
  obtain ⟨o, es, ep, t, ho, hex, hd, pe, hf, hb, hr, hl⟩ := Y.body Z
  apply Calls.call_function_entry kind_sorted plain_sorted entry_sorted (args_sorted1 _)
  unfold Builtin.«sorted»
  refine wpAny_bind (m := checkCount "sorted" 1 1 _) (wpAny_pure ?_)
  refine wpAny_bind (collect_set (A := A.in1) hh ⟨o, ho, hex.1, hd⟩ hf hb hr hl fun s1 vs k1 hz g1 o1 pm => ?_)
  obtain ⟨L', pL, eL⟩ := perm_map_inv (fun z : Value × κ => z.1) (pm.trans pe)
  have lenv : vs.length = L.length := by rw [← eL, List.length_map, pL.length_eq]
  have lo := Y.low Z
  have lz : vs.length ≤ sizeLine := by rw [lenv, sizeLine_eq]; omega
  refine wpAny_bind (wpAny_newList ?_ lz)
  have hoL : (s1.heap.push (seqObj "list" vs.toArray 0)).get? s1.heap.objs.size = some (seqObj "list" vs.toArray 0) := Heap.get?_push_size _ rfl
  have er : PySem.W.EachIs (fun v k => ∃ as, Reads (PySem.W.sortingHeap (s1.heap.push (seqObj "list" vs.toArray 0)) s1.heap.objs.size vs) v (O.enc k) as) vs (L'.map (·.2)) := by
    rw [← eL]
    refine each_of_map2 fun p hp => ?_
    obtain ⟨as, r⟩ := rd p (pL.mem_iff.mp hp)
    refine ⟨as, PyProof.Rows.Reads.keeps (fun b u e => ?_) r⟩
    have e1 := k1 b u e
    have lt := Heap.lt_size e1
    exact PySem.W.sortingHeap_old (Nat.ne_of_lt lt) (Heap.get?_push_of_some _ e1)
  have mem : ∀ k ∈ L'.map (·.2), ∃ p ∈ L, p.2 = k := fun k hk => by
    obtain ⟨p, hp, e⟩ := List.mem_map.mp hk
    exact ⟨p, pL.mem_iff.mp hp, e⟩
  have hal : PySem.W.AllAlike ((L'.map (·.2)).map O.enc) := by
    rintro d hd d' hd'
    obtain ⟨k, hk, rfl⟩ := List.mem_map.mp hd
    obtain ⟨k', hk', rfl⟩ := List.mem_map.mp hd'
    obtain ⟨p, hp, rfl⟩ := mem k hk
    obtain ⟨p', hp', rfl⟩ := mem k' hk'
    exact al p hp p' hp'
  have hso : PySem.W.Sortable ((L'.map (·.2)).map O.enc) := by
    have hsub : ∀ d ∈ (L'.map (·.2)).map O.enc, d ∈ L.map fun p => O.enc p.2 := fun d hd => by
      obtain ⟨k, hk, rfl⟩ := List.mem_map.mp hd
      obtain ⟨p, hp, rfl⟩ := mem k hk
      exact List.mem_map.mpr ⟨p, hp, rfl⟩
    rcases so with z | z
    · exact .inl fun d hd => z d (hsub d hd)
    · exact .inr fun d hd => z d (hsub d hd)
  have eR : PySem.W.EachIs (fun v k => (v, k) ∈ L) vs (L'.map (·.2)) := by
    rw [← eL]
    exact each_of_map2 fun p hp => pL.mem_iff.mp hp
  have nd' : (L'.map (·.2)).Nodup := (pL.map (·.2)).nodup_iff.mpr (Y.uni Z)
  have hm' : ∀ k, k ∈ L'.map (·.2) ↔ k ∈ ks := fun k => by rw [(pL.map (·.2)).mem_iff, hm]
  have hdep : ∀ d, d ∈ (L'.map (·.2)).map O.enc → A.in1.in1.units + d.depth < cLine := fun d hd => by
    obtain ⟨k, hk, rfl⟩ := List.mem_map.mp hd
    obtain ⟨p, hp, rfl⟩ := mem k hk
    have := dp p hp
    show A.units + 1 + 1 + (O.enc p.2).depth < cLine
    omega
  refine wpAny_bind (wpAny_holding (wpAny_call_entry slot_list_sort ⟨_, hoL, rfl⟩ entry_list_sort (PySem.W.list_sort_vals (κ := PySem.W.dataKind (PySem.W.sortingHeap (s1.heap.push (seqObj "list" vs.toArray 0)) s1.heap.objs.size vs) ((L'.map (·.2)).map O.enc)) hoL (PySem.W.SortsAt.data (s := { s1 with heap := PySem.W.sortingHeap (s1.heap.push (seqObj "list" vs.toArray 0)) s1.heap.objs.size vs }) (PySem.W.each_map (R := fun v d => ∃ as, Reads (PySem.W.sortingHeap (s1.heap.push (seqObj "list" vs.toArray 0)) s1.heap.objs.size vs) v d as) O.enc er) hal hso hdep) lz ⟨.none, rfl, ?_⟩) (args_list_sort _)))
  have sv := PySem.W.sortVals_data false eR er hal
  rw [merge_is O nd' hm'] at sv
  generalize PySem.W.sortVals _ false vs vs = out at sv ⊢
  obtain ⟨n, hn⟩ := sortedHeap_at (vs := vs) (out := out.toArray) hoL
  refine wpAny_pure ⟨_, rfl, q _ s1.heap.objs.size out n (fun b u e => ?_) g1 o1 hz hn sv⟩
  have e1 := k1 b u e
  have lt := Heap.lt_size e1
  show (sortedHeap (s1.heap.push (seqObj "list" vs.toArray 0)) s1.heap.objs.size vs out.toArray).get? b = some u
  rw [sortedHeap_old (Nat.ne_of_lt lt) (by rw [size_push']; exact Nat.lt_succ_of_lt lt)]
  exact Heap.get?_push_of_some _ e1
end
end O
set_option maxRecDepth 100000
set_option maxHeartbeats 6400000
namespace O
open PySem PySem.Spec PyProof.Rows L2
section
variable {P : Program} {w : World} {A : Around} {E : Value → Shared → Prop} {s : Shared} {κ : Type} [DecidableEq κ] (Y : SetK P w κ)
/-- set(x), x a list of keys -/
theorem setOf_list {l : Addr} {items : Array Value} {ps : List (Value × κ)} {Q : Value → Shared → Prop} (hh : A.handled = none) (hu : A.units + 40 < cLine) (hl : s.heap.IsList l items) (hi : items.toList = ps.map (·.1)) (few : ps.length < 64) (hk : ∀ p ∈ ps, Y.is s.heap p.2 p.1)
    (stay : ∀ p ∈ ps, ∀ h', (∀ b o, s.heap.get? b = some o → h'.get? b = some o) → Y.is h' p.2 p.1)
    (h : ∀ (h' : Heap) (tk : Nat), Y.ok h' s.heap.objs.size (allK ps) → (∀ b o, s.heap.get? b = some o → h'.get? b = some o) → Q (.ref s.heap.objs.size) { s with heap := h', toks := tk }) :
    wpAny (model P w) A (call (.type "set") [.ref l]) Q E s := by
  have len : items.size = ps.length := by rw [← Array.length_toList, hi, List.length_map]
  obtain ⟨c, tl, hmro⟩ := F.called_set.mro
  have hmade := F.called_set.made
  have hsub := F.called_set.sub
  refine wpAny_call (codeAny_of_tree ?_)
  show wpAny _ _ (callAny (.type "set") _) _ _ _
  refine wpAny_pure ⟨Code.quiet_builtin _ (by decide +kernel), codeAny_builtin F.entry_type_call ?_⟩
  rw [Around.under_plain (weight_type_call_type "set" [.ref l] []) rfl]
  have h1 := F.called_set.notType
  have h2 := F.called_set.canCreate
  have hct := F.typeCall_set_1 (.ref l)
  repeat (any_goals (first | assumption | wp_step))
  refine codeAny_mono (code_set_led1 (.ref l) (E := E) (Q₁ := fun obj s₁ => obj = .ref s.heap.objs.size ∧ s₁ = { s with heap := s.heap.push (eSet w) }) ⟨rfl, rfl⟩) fun r s₁ hr => ?_
  cases r with
  | error e => exact hr
  | ok fl =>
    cases fl with
    | ret obj =>
      obtain ⟨rfl, rfl⟩ := hr
      have hS : (s.heap.push (eSet w)).get? s.heap.objs.size = some (eSet w) := Heap.get?_push_size _ rfl
      have hT : Shared.TypeIs { s with heap := s.heap.push (eSet w) } (.ref s.heap.objs.size) "set" := ⟨_, hS, rfl⟩
      have hli := F.called_set.init.lookup
      have hbi := F.called_set.init.bind (.ref s.heap.objs.size)
      repeat (any_goals (first | assumption | wp_step))
      refine codeAny_mono (codeAny_call_builtin (R := wants (fun r s₂ => r = .none ∧ ∃ h' tk, s₂ = { s with heap := h', toks := tk } ∧ Y.ok h' s.heap.objs.size (allK ps) ∧ (∀ b o, s.heap.get? b = some o → h'.get? b = some o)) E) F.called_set.init.plain F.entry_set_init (check_set_init_1 hT ?_)) fun r₂ s₂ hr₂ => ?_
      · obtain ⟨ol, hol, hcl, nl, hdl⟩ := hl
        obtain ⟨ocls, odict, odata, oslots⟩ := ol
        simp only at hcl hdl
        subst hcl; subst hdl
        have hol' : (s.heap.push (eSet w)).get? l = some { cls := .type "list", dict := odict, data := .seq items nl, slots := oslots } := Heap.get?_push_of_some _ hol
        have hsls := F.sub_list_set
        have hslf := F.sub_list_frozenset
        have hne : (Value.type "list" == Value.type "dict") = false := by decide
        have hl1 : (s.heap.push (eSet w)).IsList l items := ⟨_, hol', rfl, nl, rfl⟩
        unfold Builtin.«set.__init__» noKeywords Builtin.Frozenset.updateFrom
        generalize hPI : pyIter = PI
        wp_walk
        subst hPI
        refine wpAny_pyIter_list hl1 ?_
        refine wpAny_bind (wpAny_runValue ?_)
        have hlS : l < s.heap.objs.size := Heap.lt_size hol
        have hh3 : A.in1.in1.in1.handled = none := by simp [hh]
        have hneI : l ≠ (s.heap.push (eSet w)).objs.size := by
          rw [Heap.size_push]; exact Nat.ne_of_lt (Nat.lt_succ_of_lt hlS)
        have hSf : s.heap.objs.size ∉ [(s.heap.push (eSet w)).objs.size, l] := by
          rw [Heap.size_push]; simp only [List.mem_cons, List.not_mem_nil, or_false, not_or]
          exact ⟨Nat.ne_of_lt (Nat.lt_succ_self _), Nat.ne_of_gt hlS⟩
        have hval : ∀ (i : Nat) (v : Value), items[i]? = some v → ∃ k, ps[i]? = some (v, k) := fun i v hv => by
          rw [← Array.getElem?_toList, hi, List.getElem?_map, Option.map_eq_some_iff] at hv
          obtain ⟨p, hp, e⟩ := hv
          exact ⟨p.2, by rw [hp, ← e]⟩
        have far : ∀ b o, s.heap.get? b = some o → b ∉ s.heap.objs.size :: [(s.heap.push (eSet w)).objs.size] := fun b o e => by
          have z := Heap.lt_size e
          rw [Heap.size_push]
          simp only [List.mem_cons, List.not_mem_nil, or_false, not_or]
          exact ⟨Nat.ne_of_lt z, Nat.ne_of_lt (Nat.lt_succ_of_lt z)⟩
        refine keyLoop Y ((Walks.list hh3 _ l hneI items).toS) ?hU s.heap.objs.size hSf ps hval few (h0 := s.heap) (fun p hp h' k => stay p hp h' fun b o e => k b o (far b o e) e) (items.size - 0) 0 _ (by omega) (Nat.zero_le _)
          ⟨⟨_, Heap.get?_push_size _ rfl, rfl, rfl⟩, (hl1.push _)⟩ (fun b o _ e => Heap.get?_push_of_some _ (Heap.get?_push_of_some _ e)) ?hS0 ?hR
        case hU =>
          have z : ∀ B : Around, B.in1.units = B.units + 1 := fun _ => rfl
          rw [z, z, z]
          omega
        case hS0 => exact Y.okNew (Heap.get?_push_of_some _ hS)
        case hR =>
          intro s' hm hS'
          obtain ⟨h', g', d', tk', os'⟩ := s'
          have eg : g' = s.gens := hm.gens
          have ed : d' = s.drawn := hm.drawn
          have eo : os' = s.os := hm.os
          subst eg; subst ed; subst eo
          show wpAny _ _ _ _ _ _
          refine wpAny_pure ?_
          show wpAny _ _ (ret Value.none) _ _ _
          rw [len, List.take_length] at hS'
          refine wpAny_pure ⟨rfl, h', tk', rfl, hS', fun b o e => ?_⟩
          exact hm.heap b o (far b o e) (Heap.get?_push_of_some _ (Heap.get?_push_of_some _ e))
      · cases r₂ with
        | error e => exact hr₂
        | ok fl₂ =>
          cases fl₂ with
          | ret r =>
            obtain ⟨rfl, h', tk, rfl, hS', hk'⟩ := hr₂
            repeat (any_goals (first | assumption | wp_step))
            exact h _ _ hS' hk'
          | _ => exact hr₂.elim
    | _ => exact hr.elim
/-- set(x), x a tuple of keys -/
theorem setOf_tuple {l : Addr} {items : Array Value} {ps : List (Value × κ)} {Q : Value → Shared → Prop} (hh : A.handled = none) (hu : A.units + 40 < cLine) (hl : s.heap.IsTuple l items) (hi : items.toList = ps.map (·.1)) (few : ps.length < 64) (hk : ∀ p ∈ ps, Y.is s.heap p.2 p.1)
    (stay : ∀ p ∈ ps, ∀ h', (∀ b o, s.heap.get? b = some o → h'.get? b = some o) → Y.is h' p.2 p.1)
    (h : ∀ (h' : Heap) (tk : Nat), Y.ok h' s.heap.objs.size (allK ps) → (∀ b o, s.heap.get? b = some o → h'.get? b = some o) → Q (.ref s.heap.objs.size) { s with heap := h', toks := tk }) :
    wpAny (model P w) A (call (.type "set") [.ref l]) Q E s := by
  have len : items.size = ps.length := by rw [← Array.length_toList, hi, List.length_map]
  obtain ⟨c, tl, hmro⟩ := F.called_set.mro
  have hmade := F.called_set.made
  have hsub := F.called_set.sub
  refine wpAny_call (codeAny_of_tree ?_)
  show wpAny _ _ (callAny (.type "set") _) _ _ _
  refine wpAny_pure ⟨Code.quiet_builtin _ (by decide +kernel), codeAny_builtin F.entry_type_call ?_⟩
  rw [Around.under_plain (weight_type_call_type "set" [.ref l] []) rfl]
  have h1 := F.called_set.notType
  have h2 := F.called_set.canCreate
  have hct := F.typeCall_set_1 (.ref l)
  repeat (any_goals (first | assumption | wp_step))
  refine codeAny_mono (code_set_led1 (.ref l) (E := E) (Q₁ := fun obj s₁ => obj = .ref s.heap.objs.size ∧ s₁ = { s with heap := s.heap.push (eSet w) }) ⟨rfl, rfl⟩) fun r s₁ hr => ?_
  cases r with
  | error e => exact hr
  | ok fl =>
    cases fl with
    | ret obj =>
      obtain ⟨rfl, rfl⟩ := hr
      have hS : (s.heap.push (eSet w)).get? s.heap.objs.size = some (eSet w) := Heap.get?_push_size _ rfl
      have hT : Shared.TypeIs { s with heap := s.heap.push (eSet w) } (.ref s.heap.objs.size) "set" := ⟨_, hS, rfl⟩
      have hli := F.called_set.init.lookup
      have hbi := F.called_set.init.bind (.ref s.heap.objs.size)
      repeat (any_goals (first | assumption | wp_step))
      refine codeAny_mono (codeAny_call_builtin (R := wants (fun r s₂ => r = .none ∧ ∃ h' tk, s₂ = { s with heap := h', toks := tk } ∧ Y.ok h' s.heap.objs.size (allK ps) ∧ (∀ b o, s.heap.get? b = some o → h'.get? b = some o)) E) F.called_set.init.plain F.entry_set_init (check_set_init_1 hT ?_)) fun r₂ s₂ hr₂ => ?_
      · obtain ⟨ol, hol, hcl, nl, hdl⟩ := hl
        obtain ⟨ocls, odict, odata, oslots⟩ := ol
        simp only at hcl hdl
        subst hcl; subst hdl
        have hol' : (s.heap.push (eSet w)).get? l = some { cls := .type "tuple", dict := odict, data := .seq items nl, slots := oslots } := Heap.get?_push_of_some _ hol
        have hsls := F.sub_tuple_set
        have hslf := F.sub_tuple_frozenset
        have hne : (Value.type "tuple" == Value.type "dict") = false := by decide
        have hl1 : (s.heap.push (eSet w)).IsTuple l items := ⟨_, hol', rfl, nl, rfl⟩
        unfold Builtin.«set.__init__» noKeywords Builtin.Frozenset.updateFrom
        generalize hPI : pyIter = PI
        wp_walk
        subst hPI
        refine wpAny_pyIter_tuple hl1 ?_
        refine wpAny_bind (wpAny_runValue ?_)
        have hlS : l < s.heap.objs.size := Heap.lt_size hol
        have hh3 : A.in1.in1.in1.handled = none := by simp [hh]
        have hneI : l ≠ (s.heap.push (eSet w)).objs.size := by
          rw [Heap.size_push]; exact Nat.ne_of_lt (Nat.lt_succ_of_lt hlS)
        have hSf : s.heap.objs.size ∉ [(s.heap.push (eSet w)).objs.size, l] := by
          rw [Heap.size_push]; simp only [List.mem_cons, List.not_mem_nil, or_false, not_or]
          exact ⟨Nat.ne_of_lt (Nat.lt_succ_self _), Nat.ne_of_gt hlS⟩
        have hval : ∀ (i : Nat) (v : Value), items[i]? = some v → ∃ k, ps[i]? = some (v, k) := fun i v hv => by
          rw [← Array.getElem?_toList, hi, List.getElem?_map, Option.map_eq_some_iff] at hv
          obtain ⟨p, hp, e⟩ := hv
          exact ⟨p.2, by rw [hp, ← e]⟩
        have far : ∀ b o, s.heap.get? b = some o → b ∉ s.heap.objs.size :: [(s.heap.push (eSet w)).objs.size] := fun b o e => by
          have z := Heap.lt_size e
          rw [Heap.size_push]
          simp only [List.mem_cons, List.not_mem_nil, or_false, not_or]
          exact ⟨Nat.ne_of_lt z, Nat.ne_of_lt (Nat.lt_succ_of_lt z)⟩
        refine keyLoop Y ((Walks.tuple hh3 _ l hneI items).toS) ?hU s.heap.objs.size hSf ps hval few (h0 := s.heap) (fun p hp h' k => stay p hp h' fun b o e => k b o (far b o e) e) (items.size - 0) 0 _ (by omega) (Nat.zero_le _)
          ⟨⟨_, Heap.get?_push_size _ rfl, rfl, rfl⟩, (hl1.push _)⟩ (fun b o _ e => Heap.get?_push_of_some _ (Heap.get?_push_of_some _ e)) ?hS0 ?hR
        case hU =>
          have z : ∀ B : Around, B.in1.units = B.units + 1 := fun _ => rfl
          rw [z, z, z]
          omega
        case hS0 => exact Y.okNew (Heap.get?_push_of_some _ hS)
        case hR =>
          intro s' hm hS'
          obtain ⟨h', g', d', tk', os'⟩ := s'
          have eg : g' = s.gens := hm.gens
          have ed : d' = s.drawn := hm.drawn
          have eo : os' = s.os := hm.os
          subst eg; subst ed; subst eo
          show wpAny _ _ _ _ _ _
          refine wpAny_pure ?_
          show wpAny _ _ (ret Value.none) _ _ _
          rw [len, List.take_length] at hS'
          refine wpAny_pure ⟨rfl, h', tk', rfl, hS', fun b o e => ?_⟩
          exact hm.heap b o (far b o e) (Heap.get?_push_of_some _ (Heap.get?_push_of_some _ e))
      · cases r₂ with
        | error e => exact hr₂
        | ok fl₂ =>
          cases fl₂ with
          | ret r =>
            obtain ⟨rfl, h', tk, rfl, hS', hk'⟩ := hr₂
            repeat (any_goals (first | assumption | wp_step))
            exact h _ _ hS' hk'
          | _ => exact hr₂.elim
    | _ => exact hr.elim
end
end O
set_option maxRecDepth 100000
set_option maxHeartbeats 3200000
/-! sorted(set(xs)): xs a list or a tuple of keys, or of tuples of keys -/
namespace O
open PySem PySem.Spec PyProof.Rows L2
def keyOfD : D → Option Key
  | .int i => some (.inl i)
  | .str x => some (.inr x)
  | _ => none
def keysOf : List D → Option (List Key)
  | [] => some []
  | d :: ds => match keyOfD d, keysOf ds with
    | some k, some ks => some (k :: ks)
    | _, _ => none
def tupsOf : List D → Option (List (List Key))
  | [] => some []
  | .tuple es :: ds => match keysOf es, tupsOf ds with
    | some k, some ks => some (k :: ks)
    | _, _ => none
  | _ => none
theorem keysOf_eq : ∀ {ds : List D} {ks : List Key}, keysOf ds = some ks → ds = ks.map encK
  | [], ks, h => by cases h; rfl
  | d :: ds, ks, h => by
    unfold keysOf at h
    cases hk : keyOfD d with
    | none => rw [hk] at h; cases h
    | some k =>
      rw [hk] at h
      cases hks : keysOf ds with
      | none => rw [hks] at h; cases h
      | some ks' =>
        rw [hks] at h
        cases h
        rw [List.map_cons, ← keysOf_eq hks]
        cases d <;> cases hk <;> rfl
theorem tupsOf_eq : ∀ {ds : List D} {ks : List (List Key)}, tupsOf ds = some ks → ds = ks.map encT
  | [], ks, h => by cases h; rfl
  | d :: ds, ks, h => by
    cases d with
    | tuple es =>
      unfold tupsOf at h
      cases hk : keysOf es with
      | none => rw [hk] at h; cases h
      | some k =>
        rw [hk] at h
        cases hks : tupsOf ds with
        | none => rw [hks] at h; cases h
        | some ks' =>
          rw [hks] at h
          cases h
          rw [List.map_cons, ← tupsOf_eq hks, keysOf_eq hk]
          rfl
    | _ => cases h
def alikeB (ds : List D) : Bool := ds.all fun d => ds.all fun e => PySem.W.alike d e
def semSortSet (ds : List D) : M (List D) := if ds.length < 64 && alikeB ds then match keysOf ds with
    | some ks => .ok ((sortU ordK ks).map encK)
    | none => match tupsOf ds with
      | some ks => if ks.all (fun k => !k.isEmpty) then .ok ((sortU ordT ks).map encT) else stk
      | none => stk
  else stk
def fSortSetD (f : FE) : FE := fun S => do
  let (r, S1) ← f S
  let ds ← kids r
  let z ← semSortSet ds
  pure ((.ow .sh, .list z), S1)
theorem dq_key {K : PySem.W.Frag} {G : Hp} {v : V} {k : Key} (h : Dq K G v (encK k)) {u : Value} (r : RelV v u) {P : Program} {w : World} : kIs P w k u := by
  cases k with
  | inl i =>
    cases h
    obtain ⟨t, rfl⟩ : ∃ t, u = Value.int i t := r
    show keyIs (.inl i) (.int i t) = true
    simp [keyIs, Value.isInt]
  | inr x =>
    cases h
    obtain ⟨t, rfl⟩ : ∃ t, u = Value.str x t := r
    show keyIs (.inr x) (.str x t) = true
    simp [keyIs, Value.isStrOf]
theorem dq_items {K : PySem.W.Frag} {G : Hp} {P : Program} {w : World} : ∀ {vs : List V} {us : List Value} {k : List Key}, DqAll K G vs (k.map encK) → Vals vs us → ItemsAre (mixKind P w) k us
  | [], us, [], _, r => by cases r; exact .nil
  | v :: vs, us, k :: ks, h, r => by
    cases h with
    | cons a b =>
      cases r with
      | cons p q => exact .cons (dq_key a p) (dq_items b q)
  | [], _, _ :: _, h, _ => by cases h
  | _ :: _, _, [], h, _ => by cases h
theorem allK_mem {κ : Type} [DecidableEq κ] : ∀ {ps L : List (Value × κ)} {k : κ}, k ∈ (ps.foldl addK L).map (·.2) ↔ k ∈ L.map (·.2) ∨ k ∈ ps.map (·.2)
  | [], L, k => by simp
  | p :: ps, L, k => by
    have e : k ∈ (addK L p).map (·.2) ↔ k ∈ L.map (·.2) ∨ k = p.2 := by
      unfold addK
      split
      · rename_i h
        exact ⟨.inl, fun z => by
          rcases z with z | z
          · exact z
          · rw [z]; exact h⟩
      · rw [List.map_cons, List.mem_cons]
        exact Or.comm
    rw [List.foldl_cons, allK_mem, e, List.map_cons, List.mem_cons]
    exact ⟨fun z => by rcases z with (z | z) | z <;> simp [z], fun z => by rcases z with z | z | z <;> simp [z]⟩
theorem each_vals {κ : Type} {K : PySem.W.Frag} {G : Hp} {enc : κ → D} {R : Value → κ → Prop} (h : ∀ v k, R v k → ∃ x : V, RelV x v ∧ Dq K G x (enc k)) : ∀ {out : List Value} {ks : List κ}, PySem.W.EachIs R out ks → ∃ xs, Vals xs out ∧ DqAll K G xs (ks.map enc)
  | _, _, .nil => ⟨[], .nil, .nil⟩
  | _, _, .cons a t => by
    obtain ⟨x, h1, h2⟩ := h _ _ a
    obtain ⟨xs, h3, h4⟩ := each_vals h t
    exact ⟨x :: xs, .cons h1 h3, .cons h2 h4⟩
section
variable {X : Cx} {c : Gh}
theorem srt_core {κ : Type} [DecidableEq κ] (Y : SetK X.prog X.w κ) (O : Ord κ) {K : PySem.W.Frag} {G : Hp} (hc : X.calm = true) (hu : X.A.units + 160 < cLine) {pins : List (Addr × Obj)} {s : Shared} {σ : L2.St} {H : Hp} {l : Addr} {us : List Value} {ks : List κ} (I : Inv X pins σ H s)
    (src : s.heap.IsList l us.toArray ∨ s.heap.IsTuple l us.toArray) (few : us.length < 64) (len : ks.length = us.length) (hk : ∀ p ∈ us.zip ks, Y.is s.heap p.2 p.1) (stay : ∀ p ∈ us.zip ks, ∀ h', (∀ b o, s.heap.get? b = some o → h'.get? b = some o) → Y.is h' p.2 p.1)
    (rd : ∀ p ∈ us.zip ks, ∃ as, Reads s.heap p.1 (O.enc p.2) as) (al : ∀ k ∈ ks, ∀ k' ∈ ks, PySem.W.alike (O.enc k) (O.enc k') = true) (so : (∀ k ∈ ks, ∃ x r, O.enc k = .tuple (x :: r)) ∨ ∀ k ∈ ks, O.enc k ≠ .none ∧ ∀ xs, O.enc k ≠ .tuple xs) (dp : ∀ k ∈ ks, (O.enc k).depth ≤ 40)
    (hv : ∀ p ∈ us.zip ks, ∃ x : V, RelV x p.1 ∧ Dq K G x (O.enc p.2)) {Q : VK}
    (q : ∀ (xs : List V) (p : Addr), DqAll K G xs ((sortU O ks).map O.enc) → H p = none → Q (.ref p) (upd H p (.lst xs))) :
    wpAny (model X.prog X.w) X.A (call (.type "set") [.ref l]) (fun v s1 => wpAny (model X.prog X.w) X.A (call (.builtin "sorted") [v]) (EP X pins σ Q) X.xe s1) X.xe s := by
  have zf : (us.zip ks).map (·.1) = us := by rw [List.map_fst_zip (by omega)]
  have zs : (us.zip ks).map (·.2) = ks := by rw [List.map_snd_zip (by omega)]
  have hps : (us.zip ks).length < 64 := by rw [List.length_zip]; omega
  have main : ∀ (h' : Heap) (tk : Nat), Y.ok h' s.heap.objs.size (allK (us.zip ks)) → (∀ b o, s.heap.get? b = some o → h'.get? b = some o) →
      wpAny (model X.prog X.w) X.A (call (.builtin "sorted") [.ref s.heap.objs.size]) (EP X pins σ Q) X.xe { s with heap := h', toks := tk } := by
    intro h' tk Z kp
    have I2 : Inv X pins σ H { s with heap := h', toks := tk } := I.kept kp
    have hd2 := I.ok.hd hc
    have Z2 : Y.ok ({ s with heap := h', toks := tk } : Shared).heap s.heap.objs.size (allK (us.zip ks)) := Z
    have kp2 : ∀ b o, s.heap.get? b = some o → ({ s with heap := h', toks := tk } : Shared).heap.get? b = some o := kp
    generalize ({ s with heap := h', toks := tk } : Shared) = s2 at I2 Z2 kp2 ⊢
    have sub : ∀ p ∈ allK (us.zip ks), p ∈ us.zip ks := fun p hp => foldK_sub (us.zip ks) (fun q hq => by cases hq) (fun q hq => hq) p hp
    have ink : ∀ p ∈ allK (us.zip ks), p.2 ∈ ks := fun p hp => by
      rw [← zs]
      exact List.mem_map.mpr ⟨p, sub p hp, rfl⟩
    have so' : PySem.W.Sortable ((allK (us.zip ks)).map fun p => O.enc p.2) := by
      rcases so with z | z
      · refine .inl fun d hd => ?_
        obtain ⟨p, hp, rfl⟩ := List.mem_map.mp hd
        exact z _ (ink p hp)
      · refine .inr fun d hd => ?_
        obtain ⟨p, hp, rfl⟩ := List.mem_map.mp hd
        exact z _ (ink p hp)
    refine sorted_setK Y O (ks := ks) (s := s2) hd2 (by omega) Z2 (fun k => ?_) (fun p hp => ?_) (fun p hp p' hp' => al _ (ink p hp) _ (ink p' hp')) so' (fun p hp => dp _ (ink p hp)) fun s' p out n k1 g1 o1 hp hg hs => ?_
    · show k ∈ ((us.zip ks).foldl addK []).map (·.2) ↔ _
      rw [allK_mem, zs]
      simp
    · obtain ⟨as, r⟩ := rd p (sub p hp)
      exact ⟨as, PyProof.Rows.Reads.keeps kp2 r⟩
    · obtain ⟨xs, h1, h2⟩ := each_vals (K := K) (G := G) (enc := O.enc) (fun v k hvk => hv _ (sub _ hvk)) hs
      have hnp : H p = none := I2.hok.fresh hp
      have lenx : xs.length ≤ sizeLine := by
        have z1 := h2.length
        rw [List.length_map] at z1
        have z2 : (sortU O ks).length ≤ ks.length := by
          have z3 := merge_is O (ks := ks) (Y.uni Z) (fun k => by
            show k ∈ ((us.zip ks).foldl addK []).map (·.2) ↔ _
            rw [allK_mem, zs]
            simp)
          rw [← z3, List.length_mergeSort, List.length_map]
          have z4 := foldK_len (us.zip ks) []
          rw [List.length_zip] at z4
          show ((us.zip ks).foldl addK []).length ≤ _
          simp only [List.length_nil] at z4
          omega
        rw [sizeLine_eq]
        omega
      have J : Inv X pins σ (upd H p (.lst xs)) { s2 with heap := s'.heap, gens := s'.gens, drawn := s'.drawn, toks := s'.toks } :=
        I2.call (ch := []) (Un.laid k1 hp hnp) (I2.hok.laid k1 hp ⟨lenx, out, n, h1, hg⟩) (by rw [g1]; exact I2.bare) (fun _ z => nomatch z)
      have e : s' = { s2 with heap := s'.heap, gens := s'.gens, drawn := s'.drawn, toks := s'.toks } := by
        cases s'
        cases s2
        cases o1
        rfl
      rw [e]
      exact ⟨.ref p, _, J, rfl, q xs p h2 hnp⟩
  rcases src with hl | hl
  · exact setOf_list Y (I.ok.hd hc) (by omega) hl (ps := us.zip ks) (by rw [zf]) hps hk stay main
  · exact setOf_tuple Y (I.ok.hd hc) (by omega) hl (ps := us.zip ks) (by rw [zf]) hps hk stay main
end
end O
set_option maxRecDepth 100000
set_option maxHeartbeats 3200000
namespace O
open PySem PySem.Spec PyProof.Rows L2
section
variable {X : Cx} {c : Gh}
theorem keys_zip {K : PySem.W.Frag} {G : Hp} : ∀ {vs : List V} {us : List Value} {ks : List Key}, DqAll K G vs (ks.map encK) → Vals vs us → ∀ p ∈ us.zip ks, ∃ x : V, RelV x p.1 ∧ Dq K G x (encK p.2)
  | _, [], _, _, _, p, hp => by simp at hp
  | _, _ :: _, [], _, _, p, hp => by simp at hp
  | [], u :: us, k :: ks, h, _, p, hp => by cases h
  | v :: vs, u :: us, k :: ks, h, r, p, hp => by
    cases h with
    | cons a b =>
      cases r with
      | cons x y =>
        rw [List.zip_cons_cons] at hp
        rcases List.mem_cons.mp hp with rfl | hp
        · exact ⟨v, x, a⟩
        · exact keys_zip b y p hp
theorem tups_zip {K : PySem.W.Frag} {G : Hp} : ∀ {vs : List V} {us : List Value} {ks : List (List Key)}, DqAll K G vs (ks.map encT) → Vals vs us → ∀ p ∈ us.zip ks, ∃ x : V, RelV x p.1 ∧ Dq K G x (encT p.2)
  | _, [], _, _, _, p, hp => by simp at hp
  | _, _ :: _, [], _, _, p, hp => by simp at hp
  | [], u :: us, k :: ks, h, _, p, hp => by cases h
  | v :: vs, u :: us, k :: ks, h, r, p, hp => by
    cases h with
    | cons a b =>
      cases r with
      | cons x y =>
        rw [List.zip_cons_cons] at hp
        rcases List.mem_cons.mp hp with rfl | hp
        · exact ⟨v, x, a⟩
        · exact tups_zip b y p hp
theorem depth_keys : ∀ ks : List Key, PyData.depthAll (ks.map encK) = 0
  | [] => by simp [PyData.depthAll]
  | k :: ks => by
    rw [List.map_cons, PyData.depthAll, depth_keys ks]
    cases k <;> simp [encK, PyData.depth]
theorem alike_of {ds : List D} (h : alikeB ds = true) : ∀ d ∈ ds, ∀ e ∈ ds, PySem.W.alike d e = true := fun d hd e he => List.all_eq_true.mp (List.all_eq_true.mp h d hd) e he
theorem de_sortSetD (hK : c.K = X.K) {a : Expr} {f : FE} {p p2 q pos : Pos} (hc : X.calm = true) (hu : X.A.units + 160 < cLine) (hg : Gl X "sorted") (hm : X.mg "sorted" = none) (hg2 : Gl X "set") (hm2 : X.mg "set" = none) (ha : PE X a (tE c f))
    (na : starEach [a] X.env = (false, eval a X.env) :: starEach [] X.env := by rfl) : PE X (.Call (.Name "sorted" p) [.Call (.Name "set" p2) [a] [] q] [] pos) (tE c (fSortSetD f)) := by
  refine ⟨fun pins s σ H Q I h => ?_⟩
  obtain ⟨G, S, R, ok, r, S', e, k⟩ := h
  obtain ⟨⟨r1, S1⟩, e1, e⟩ := bind_ok e
  obtain ⟨ds, e2, e⟩ := bind_ok e
  obtain ⟨zs, e3, e⟩ := bind_ok e
  cases e
  refine Call_ (ld_blt I hg hm boot_sorted ?_)
  refine PyProof.Rows.callWith_builtin1 (PyProof.Rows.args_cons ?_ rfl) rfl rfl
  refine Call_ (ld_blt I hg2 hm2 PyProof.Rows.boot_set ?_)
  refine PyProof.Rows.callWith_type1 (PyProof.Rows.args_cons (thn (ha.run pins s σ H (fun v H1 => ∃ G1, Sub G G1 ∧ SOk c G1 H1 σ S' ((r1.1, v, r1.2) :: R)) I ⟨G, S, R, ok, r1, S', e1, fun G1 v H1 s1 ok1 => ⟨G1, s1, ok1⟩⟩) fun v s1 ⟨x, H1, I1, r1', q1⟩ => PyProof.Rows.args_nil ?_) na) na rfl
  obtain ⟨G1, s1', ok1⟩ := q1
  have hv : View c G1 H1 r1 x := ok1.rel.view (List.mem_append_left _ List.mem_cons_self)
  obtain ⟨l, vs, rfl, h1, h2⟩ := hv.kids ok1.rel e2
  obtain rfl : v = .ref l := r1'
  have src : ∃ us : List Value, Vals vs us ∧ (s1.heap.IsList l us.toArray ∨ s1.heap.IsTuple l us.toArray) := by
    rcases h1 with ⟨_, h1⟩ | ⟨_, h1⟩
    · obtain ⟨its, rv, pl, hz⟩ := I1.list (xs := vs) (.inl (.inl h1))
      exact ⟨its, rv, .inl pl.isList⟩
    · rw [hK] at h1
      obtain ⟨its, rv, pl, hz⟩ := I1.tuple h1
      exact ⟨its, rv, .inr pl⟩
  obtain ⟨us, rv, src⟩ := src
  have len := rv.length
  have lend := h2.length
  unfold semSortSet at e3
  split at e3
  · rename_i hcond
    rw [Bool.and_eq_true, decide_eq_true_eq] at hcond
    obtain ⟨few, al⟩ := hcond
    have al' := alike_of al
    have fin : ∀ (xs : List V) (p : Addr), DqAll c.K G1 xs zs → H1 p = none → Q (.ref p) (upd H1 p (.lst xs)) := fun xs p hx hp =>
      k G1 _ _ s1' ⟨ok1.cov, (ok1.rel.drop).new_lst hp hx⟩
    split at e3
    · rename_i ks hks
      cases e3
      have ed := keysOf_eq hks
      subst ed
      have lk : ks.length = us.length := by rw [List.length_map] at lend; omega
      refine wpAny_mono (srt_core (scanSet X.prog X.w) ordK (K := c.K) (G := G1) hc hu I1 src (by rw [List.length_map] at few; omega) lk (fun p hp => ?_) (fun p hp h' kp => ?_) (fun p hp => ?_) (fun k' h' k2 h2' => al' _ (List.mem_map.mpr ⟨k', h', rfl⟩) _ (List.mem_map.mpr ⟨k2, h2', rfl⟩)) (.inr fun k' _ => by cases k' <;> exact ⟨(fun z => nomatch z), fun xs z => nomatch z⟩) (fun k' _ => by cases k' <;> exact Nat.zero_le _) (keys_zip h2 rv) fin) (fun v s2 z => PyProof.Rows.args_nil z) fun _ _ z => z
      · obtain ⟨x, z1, z2⟩ := keys_zip h2 rv p hp
        exact dq_key z2 z1
      · obtain ⟨x, z1, z2⟩ := keys_zip h2 rv p hp
        exact dq_key z2 z1
      · obtain ⟨x, z1, z2⟩ := keys_zip h2 rv p hp
        exact Dp.reads I1 _ _ _ (by have := Dq.dp _ _ (Dq.sub ok1.rel.sub _ _ z2); rwa [hK] at this) z1
    · split at e3
      · rename_i ks hks
        split at e3
        · rename_i hne
          cases e3
          have ed := tupsOf_eq hks
          subst ed
          have lk : ks.length = us.length := by rw [List.length_map] at lend; omega
          have isT : ∀ p ∈ us.zip ks, ∃ t, p.1 = Value.ref t ∧ tIs X.prog X.w s1.heap p.2 t := fun p hp => by
            obtain ⟨x, z1, z2⟩ := tups_zip h2 rv p hp
            cases z2 with
            | tup a b =>
              obtain z1 : p.1 = .ref _ := z1
              have a' := SqT.sub ok1.rel.sub a
              rw [hK] at a'
              obtain ⟨its, rv2, ⟨o, ho, hcl, n, hd⟩, _⟩ := I1.tuple a'
              exact ⟨_, z1, o, its.toArray, n, ho, hcl, hd, dq_items b rv2⟩
          refine wpAny_mono (srt_core (tupSet X.prog X.w) ordT (K := c.K) (G := G1) hc hu I1 src (by rw [List.length_map] at few; omega) lk isT (fun p hp h' kp => ?_) (fun p hp => ?_) (fun k' h' k2 h2' => al' _ (List.mem_map.mpr ⟨k', h', rfl⟩) _ (List.mem_map.mpr ⟨k2, h2', rfl⟩)) (.inl fun k' hk' => ?_) (fun k' _ => ?_) (tups_zip h2 rv) fin) (fun v s2 z => PyProof.Rows.args_nil z) fun _ _ z => z
          · obtain ⟨t, z1, z2⟩ := isT p hp
            exact (tupSet X.prog X.w).isKeep ⟨t, z1, z2⟩ kp
          · obtain ⟨x, z1, z2⟩ := tups_zip h2 rv p hp
            exact Dp.reads I1 _ _ _ (by have := Dq.dp _ _ (Dq.sub ok1.rel.sub _ _ z2); rwa [hK] at this) z1
          · have z := List.all_eq_true.mp hne k' hk'
            cases k' with
            | nil => cases z
            | cons a b => exact ⟨encK a, b.map encK, rfl⟩
          · show (PyData.tuple (k'.map encK)).depth ≤ 40
            rw [PyData.depth, depth_keys]
            decide
        · cases e3
      · cases e3
  · cases e3
end
end O
set_option maxRecDepth 100000
set_option maxHeartbeats 3200000
/-! sorted(xs) of a list or a tuple -/
namespace O
open PySem PySem.Spec PyProof.Rows L2
section
variable {P : Program} {w : World} {A : Around} {E : Value → Shared → Prop} {s : Shared}
theorem collect_seq {l : Addr} {vs : List Value} {Q : List Value → Shared → Prop} (hl : s.heap.IsList l vs.toArray ∨ s.heap.IsTuple l vs.toArray) (hz : vs.length ≤ sizeLine)
    (q : Q vs { s with heap := (s.heap.push (seqObj "list" #[] 0)).update s.heap.objs.size (Obj.mapSeq (· ++ vs.toArray)) }) : wpAny (model P w) A (collect (.ref l)) Q E s := by
  obtain ⟨T, hT, o, ho, hc, n, hd⟩ : ∃ T, (T = "list" ∨ T = "tuple") ∧ ∃ o, s.heap.get? l = some o ∧ o.cls = .type T ∧ ∃ n, o.data = .seq vs.toArray n := by
    rcases hl with ⟨o, ho, hc, n, hd⟩ | ⟨o, ho, hc, n, hd⟩
    · exact ⟨"list", .inl rfl, o, ho, hc, n, hd⟩
    · exact ⟨"tuple", .inr rfl, o, ho, hc, n, hd⟩
  unfold collect
  refine wpAny_bind (wpAny_runValue (codeAny_builtin entry_proto_collect' ?_))
  show wpAny _ _ (do again (.builtin "list.__iadd__" ⟨[← newList [], .ref l], []⟩)) _ _ _
  refine wpAny_bind (wpAny_newList (wpAny_pure ⟨Code.quiet_builtin _ (by decide +kernel), codeAny_builtin entry_list_iadd' ?_⟩))
  unfold Builtin.«list.__iadd__»
  have ho' : (s.heap.push (seqObj "list" #[] 0)).get? l = some o := Heap.get?_push_of_some _ ho
  show wpAny _ _ (Builtin.List.listExtendWith (.ref s.heap.objs.size) (.ref l) (.ref s.heap.objs.size)) _ _ { s with heap := s.heap.push (seqObj "list" #[] 0) }
  unfold Builtin.List.listExtendWith
  refine wpAny_bind (wpAny_typeOf (T := T) ⟨o, ho', hc⟩ ?_)
  rw [if_pos (by rcases hT with rfl | rfl <;> simp <;> decide)]
  refine wpAny_bind (listItems_at ho' hd ?_)
  refine wpAny_bind (listItems_at (xs := #[]) (n := 0) (Heap.get?_push_size _ rfl) rfl ?_)
  rw [if_neg (by simp)]
  refine wpAny_bind (listUpdate_at (n := 0) (xs := #[]) (Heap.get?_push_size _ rfl) rfl ?_ (Nat.zero_le _) ?_)
  rotate_left
  · show (#[] ++ vs.toArray).size ≤ sizeLine + 1
    rw [Array.size_append, List.size_toArray]
    show 0 + vs.length ≤ _
    omega
  refine wpAny_pure ?_
  refine wpAny_bind (wpAny_load (get?_update_seq (Heap.get?_push_size _ rfl) _) ?_)
  show wpAny _ _ (pure ((#[] : Array Value) ++ vs.toArray).toList) Q E _
  rw [show ((#[] : Array Value) ++ vs.toArray).toList = vs by simp]
  exact wpAny_pure q
theorem sorted_seq {β : Type} {R : Value → β → Prop} {enc : β → D} {l : Addr} {vs : List Value} {bs : List β} {Q : Value → Shared → Prop} (hl : s.heap.IsList l vs.toArray ∨ s.heap.IsTuple l vs.toArray) (hz : vs.length ≤ sizeLine)
    (e : PySem.W.EachIs R vs bs) (rd : PySem.W.EachIs (fun v b => ∃ as, Reads s.heap v (enc b) as) vs bs) (al : PySem.W.AllAlike (bs.map enc)) (so : PySem.W.Sortable (bs.map enc)) (dp : ∀ b ∈ bs, A.units + 2 + (enc b).depth < cLine)
    (q : ∀ s' p (out : List Value) (n : Nat), (∀ b o, s.heap.get? b = some o → s'.heap.get? b = some o) → s'.gens = s.gens → s'.os = s.os → s.heap.objs.size ≤ p → s'.heap.get? p = some (seqObj "list" out.toArray n) →
      PySem.W.EachIs R out (bs.mergeSort (PySem.W.dataLe false enc)) → Q (.ref p) s') :
    wpAny (model P w) A (call (.builtin "sorted") [.ref l]) Q E s := by
  apply Calls.call_function_entry kind_sorted plain_sorted entry_sorted (args_sorted1 _)
  unfold Builtin.«sorted»
  refine wpAny_bind (m := checkCount "sorted" 1 1 _) (wpAny_pure ?_)
  refine wpAny_bind (collect_seq hl hz ?_)
  generalize hs1 : ({ s with heap := (s.heap.push (seqObj "list" #[] 0)).update s.heap.objs.size (Obj.mapSeq (· ++ vs.toArray)) } : Shared) = s1
  have k1 : ∀ b o, s.heap.get? b = some o → s1.heap.get? b = some o := fun b o h => by
    rw [← hs1]
    show ((s.heap.push (seqObj "list" #[] 0)).update s.heap.objs.size (Obj.mapSeq (· ++ vs.toArray))).get? b = some o
    rw [Heap.get?_update_ne _ _ _ _ (Nat.ne_of_lt (Heap.lt_size h))]
    exact Heap.get?_push_of_some _ h
  have hz1 : s.heap.objs.size ≤ s1.heap.objs.size := by
    rw [← hs1]
    show _ ≤ ((s.heap.push (seqObj "list" #[] 0)).update s.heap.objs.size (Obj.mapSeq (· ++ vs.toArray))).objs.size
    rw [Heap.size_update, Heap.size_push]
    exact Nat.le_succ _
  have g1 : s1.gens = s.gens := by rw [← hs1]
  have o1 : s1.os = s.os := by rw [← hs1]
  refine wpAny_bind (wpAny_newList ?_ hz)
  have hoL : (s1.heap.push (seqObj "list" vs.toArray 0)).get? s1.heap.objs.size = some (seqObj "list" vs.toArray 0) := Heap.get?_push_size _ rfl
  have er : PySem.W.EachIs (fun v b => ∃ as, Reads (PySem.W.sortingHeap (s1.heap.push (seqObj "list" vs.toArray 0)) s1.heap.objs.size vs) v (enc b) as) vs bs := rd.mono fun v b ⟨as, r⟩ => ⟨as, PyProof.Rows.Reads.keeps (fun b u e => by
    have e1 := k1 b u e
    exact PySem.W.sortingHeap_old (Nat.ne_of_lt (Heap.lt_size e1)) (Heap.get?_push_of_some _ e1)) r⟩
  have hdep : ∀ d, d ∈ bs.map enc → A.in1.in1.units + d.depth < cLine := fun d hd => by
    obtain ⟨b, hb, rfl⟩ := List.mem_map.mp hd
    have := dp b hb
    show A.units + 1 + 1 + (enc b).depth < cLine
    omega
  refine wpAny_bind (wpAny_holding (wpAny_call_entry slot_list_sort ⟨_, hoL, rfl⟩ entry_list_sort (PySem.W.list_sort_vals (κ := PySem.W.dataKind (PySem.W.sortingHeap (s1.heap.push (seqObj "list" vs.toArray 0)) s1.heap.objs.size vs) (bs.map enc)) hoL (PySem.W.SortsAt.data (s := { s1 with heap := PySem.W.sortingHeap (s1.heap.push (seqObj "list" vs.toArray 0)) s1.heap.objs.size vs }) (PySem.W.each_map (R := fun v d => ∃ as, Reads (PySem.W.sortingHeap (s1.heap.push (seqObj "list" vs.toArray 0)) s1.heap.objs.size vs) v d as) enc er) al so hdep) hz ⟨.none, rfl, ?_⟩) (args_list_sort _)))
  have sv := PySem.W.sortVals_data false e er al
  generalize PySem.W.sortVals _ false vs vs = out at sv ⊢
  obtain ⟨n, hn⟩ := sortedHeap_at (vs := vs) (out := out.toArray) hoL
  refine wpAny_pure ⟨_, rfl, q _ s1.heap.objs.size out n (fun b u e => ?_) g1 o1 hz1 hn sv⟩
  have e1 := k1 b u e
  have lt := Heap.lt_size e1
  show (sortedHeap (s1.heap.push (seqObj "list" vs.toArray 0)) s1.heap.objs.size vs out.toArray).get? b = some u
  rw [sortedHeap_old (Nat.ne_of_lt lt) (by rw [size_push']; exact Nat.lt_succ_of_lt lt)]
  exact Heap.get?_push_of_some _ e1
end
/-! the rule -/
def tupleD : D → Bool
  | .tuple (_ :: _) => true
  | _ => false
def scalD : D → Bool
  | .int _ => true
  | .str _ => true
  | .bool _ => true
  | _ => false
def semSorted : SemN := fun rs => match rs with
  | [r] => do
    let ds ← kids r
    if ds.length ≤ 1000000 && alikeB ds && (ds.all tupleD || ds.all scalD) && ds.all (fun d => decide (d.depth ≤ 40)) then pure (.ow .sh, .list (ds.mergeSort (PySem.W.dataLe false fun d => d))) else stk
  | _ => stk
section
variable {X : Cx} {c : Gh}
theorem dq_each {K : PySem.W.Frag} {G : Hp} : ∀ {vs : List V} {us : List Value} {ds : List D}, DqAll K G vs ds → Vals vs us → PySem.W.EachIs (fun u d => ∃ x : V, RelV x u ∧ Dq K G x d) us ds
  | _, [], _, h, r => by cases r; cases h; exact .nil
  | _, u :: us, _, h, r => by
    cases r with
    | cons a b =>
      cases h with
      | cons x y => exact .cons ⟨_, a, x⟩ (dq_each y b)
theorem each_dq {K : PySem.W.Frag} {G : Hp} : ∀ {us : List Value} {ds : List D}, PySem.W.EachIs (fun u d => ∃ x : V, RelV x u ∧ Dq K G x d) us ds → ∃ vs : List V, Vals vs us ∧ DqAll K G vs ds
  | _, _, .nil => ⟨[], .nil, .nil⟩
  | _, _, .cons ⟨x, a, b⟩ t => by
    obtain ⟨vs, h1, h2⟩ := each_dq t
    exact ⟨x :: vs, .cons a h1, .cons b h2⟩
theorem c_sorted (hK : c.K = X.K) (hu : X.A.units + 160 < cLine) : CallR X (.builtin "sorted") (rND c semSorted) := by
  intro pins s σ H xs us Q I rv h
  obtain ⟨G, L, rs, r, rl, hv, e, k⟩ := h
  unfold semSorted at e
  split at e
  · rename_i r0
    obtain ⟨v, rfl, hw⟩ := views1 hv
    obtain ⟨ds, e1, e⟩ := bind_ok e
    split at e
    · rename_i hc
      cases e
      rw [Bool.and_eq_true, Bool.and_eq_true, Bool.and_eq_true, decide_eq_true_eq] at hc
      obtain ⟨⟨⟨hl, al⟩, so⟩, dp⟩ := hc
      obtain ⟨l, vs, rfl, h1, h2⟩ := hw.kids rl e1
      cases rv with
      | cons q1 q2 =>
        cases q2
        obtain rfl := q1
        have src : ∃ its : List Value, Vals vs its ∧ (s.heap.IsList l its.toArray ∨ s.heap.IsTuple l its.toArray) := by
          rcases h1 with ⟨_, h1⟩ | ⟨_, h1⟩
          · obtain ⟨its, rv, pl, hz⟩ := I.list (xs := vs) (.inl (.inl h1))
            exact ⟨its, rv, .inl pl.isList⟩
          · rw [hK] at h1
            obtain ⟨its, rv, pl, hz⟩ := I.tuple h1
            exact ⟨its, rv, .inr pl⟩
        obtain ⟨its, rv, src⟩ := src
        have len : its.length = ds.length := by rw [← rv.length, h2.length]
        have al' := alike_of al
        have depth : ∀ d ∈ ds, d.depth ≤ 40 := fun d hd => by simpa using List.all_eq_true.mp dp d hd
        have bnd : (1000000 : Nat) ≤ sizeLine := by decide
        have rd : PySem.W.EachIs (fun u d => ∃ as, Reads s.heap u d as) its ds := (dq_each h2 rv).mono fun u d z => by
          obtain ⟨x, a, b⟩ := z
          exact Dp.reads I _ _ _ (by have := Dq.dp _ _ (Dq.sub rl.sub _ _ b); rwa [hK] at this) a
        have aa : PySem.W.AllAlike (ds.map fun d => d) := by
          rw [List.map_id']
          exact fun d hd d' hd' => al' d hd d' hd'
        have sr : PySem.W.Sortable (ds.map fun d => d) := by
          rw [List.map_id']
          rw [Bool.or_eq_true] at so
          rcases so with so | so
          · refine .inl fun d hd => ?_
            have z := List.all_eq_true.mp so d hd
            cases d with
            | tuple es =>
              cases es with
              | nil => cases z
              | cons a b => exact ⟨a, b, rfl⟩
            | _ => cases z
          · refine .inr fun d hd => ?_
            have z := List.all_eq_true.mp so d hd
            cases d <;> first | (cases z; done) | exact ⟨(fun z => nomatch z), fun xs z => nomatch z⟩
        refine sorted_seq (R := fun u d => ∃ x : V, RelV x u ∧ Dq c.K G x d) (enc := fun d => d) src (by omega) (dq_each h2 rv) rd aa sr (fun d hd => by have := depth d hd; omega) fun s' p out n k1 g1 o1 hp hg hs => ?_
        · obtain ⟨ws, w1, w2⟩ := each_dq hs
          have hnp : H p = none := I.hok.fresh hp
          have lenx : ws.length ≤ sizeLine := by
            rw [w2.length, List.length_mergeSort]
            omega
          have J : Inv X pins σ (upd H p (.lst ws)) { s with heap := s'.heap, gens := s'.gens, drawn := s'.drawn, toks := s'.toks } :=
            I.call (ch := []) (Un.laid k1 hp hnp) (I.hok.laid k1 hp ⟨lenx, out, n, w1, hg⟩) (by rw [g1]; exact I.bare) (fun _ z => nomatch z)
          have e : s' = { s with heap := s'.heap, gens := s'.gens, drawn := s'.drawn, toks := s'.toks } := by
            cases s'
            cases s
            cases o1
            rfl
          rw [e]
          exact ⟨.ref p, _, J, rfl, k G _ _ (Sub.refl G) (rl.new_lst hnp w2)⟩
    · cases e
  · cases e
end
end O
set_option maxRecDepth 100000
set_option maxHeartbeats 1600000
/-! dicts held in a slot -/
namespace O
open PySem PySem.Spec PyProof.Rows L2
def isKey (k : Key) (d : D) : Bool := decide (keyOfD d = some k)
def dicGet (ds : List (D × D)) (k : Key) : Option D := (ds.find? fun p => isKey k p.1).map (·.2)
def dicPut (ds : List (D × D)) (k : Key) (d : D) : List (D × D) := if (ds.any fun p => isKey k p.1) = true then ds.map (fun p => if isKey k p.1 then (p.1, d) else p) else ds ++ [(encK k, d)]
theorem keyOf_enc (k : Key) : keyOfD (encK k) = some k := by cases k <;> rfl
theorem isKey_enc (k j : Key) : isKey k (encK j) = decide (j = k) := by
  unfold isKey
  rw [keyOf_enc]
  by_cases h : j = k
  · subst h; simp
  · simp [h]
theorem KvAll.get {K : PySem.W.Frag} {G : Hp} {k : Key} : ∀ {kvs : List (Key × V)} {ds : List (D × D)}, KvAll K G kvs ds → (valV kvs k = none ∧ dicGet ds k = none) ∨ ∃ v d, valV kvs k = some v ∧ dicGet ds k = some d ∧ Dq K G v d
  | _, _, .nil => .inl ⟨rfl, rfl⟩
  | _, _, .cons (k := j) (v := v) (d := d) a t => by
    unfold valV dicGet
    rw [List.find?_cons, List.find?_cons, isKey_enc]
    by_cases h : j = k
    · rw [decide_eq_true h]
      exact .inr ⟨v, d, rfl, rfl, a⟩
    · rw [decide_eq_false h]
      exact KvAll.get t
theorem KvAll.any {K : PySem.W.Frag} {G : Hp} {k : Key} : ∀ {kvs : List (Key × V)} {ds : List (D × D)}, KvAll K G kvs ds → (kvs.any fun kv => decide (kv.1 = k)) = ds.any fun p => isKey k p.1
  | _, _, .nil => rfl
  | _, _, .cons a t => by rw [List.any_cons, List.any_cons, isKey_enc, KvAll.any t]
theorem KvAll.swap {K : PySem.W.Frag} {G : Hp} {k : Key} {v : V} {d : D} (h : Dq K G v d) : ∀ {kvs : List (Key × V)} {ds : List (D × D)}, KvAll K G kvs ds → KvAll K G (kvs.map fun kv => if kv.1 = k then (kv.1, v) else kv) (ds.map fun p => if isKey k p.1 then (p.1, d) else p)
  | _, _, .nil => .nil
  | _, _, .cons (k := j) (v := v') (d := d') a t => by
    rw [List.map_cons, List.map_cons, isKey_enc]
    by_cases q : j = k
    · rw [if_pos q, if_pos (by simpa using q)]
      exact .cons h (KvAll.swap h t)
    · rw [if_neg q, if_neg (by simpa using q)]
      exact .cons a (KvAll.swap h t)
theorem KvAll.snoc {K : PySem.W.Frag} {G : Hp} {k : Key} {v : V} {d : D} (h : Dq K G v d) : ∀ {kvs : List (Key × V)} {ds : List (D × D)}, KvAll K G kvs ds → KvAll K G (kvs ++ [(k, v)]) (ds ++ [(encK k, d)])
  | _, _, .nil => .cons h .nil
  | _, _, .cons a t => .cons a (KvAll.snoc h t)
theorem KvAll.put {K : PySem.W.Frag} {G : Hp} {k : Key} {v : V} {d : D} (h : Dq K G v d) {kvs : List (Key × V)} {ds : List (D × D)} (t : KvAll K G kvs ds) : KvAll K G (putK kvs k v) (dicPut ds k d) := by
  unfold putK dicPut
  rw [t.any]
  split
  · exact t.swap h
  · exact t.snoc h
theorem KvAll.len {K : PySem.W.Frag} {G : Hp} : ∀ {kvs : List (Key × V)} {ds : List (D × D)}, KvAll K G kvs ds → kvs.length = ds.length
  | _, _, .nil => rfl
  | _, _, .cons _ t => by rw [List.length_cons, List.length_cons, KvAll.len t]
/-! what is held -/
theorem Rel.dk_of {c : Gh} {G H : Hp} {v : V} {d : D} {L : List T3} (r : Rel c G H ((.dk, v, d) :: L)) : ∃ a kvs ds, v = .ref a ∧ d = .dict ds ∧ H a = some (.dK kvs) ∧ KvAll c.K G kvs ds := by
  obtain ⟨F, h, n, q⟩ := r.own
  cases h with
  | cons p t =>
    obtain ⟨a, kvs, ds, h1, h2, h3, h4, _⟩ := p
    exact ⟨a, kvs, ds, h1, h2, h3, h4⟩
theorem Rel.new_dk {c : Gh} {G H : Hp} {L : List T3} {p : Addr} {kvs : List (Key × V)} {ds : List (D × D)} (r : Rel c G H L) (hp : H p = none) (h : KvAll c.K G kvs ds) : Rel c G (upd H p (.dK kvs)) ((.dk, .ref p, .dict ds) :: L) := by
  have r1 : Rel c G (upd H p (.dK kvs)) L := r.laid hp
  obtain ⟨F, h0, n, q⟩ := r.own
  refine ⟨r1.sub, r1.subB, r1.pu, r1.tab, [p] ++ F, .cons ⟨p, kvs, ds, rfl, rfl, upd_same, h, rfl⟩ (Reps.keep (fun a ha => ?_) h0), ?_, fun a ha => ?_⟩
  · obtain ⟨xs, e, _⟩ := h0.some a ha
    rw [upd_ne (ne_of_none e hp)]
  · refine List.nodup_cons.mpr ⟨fun hm => ?_, n⟩
    obtain ⟨xs, e, _⟩ := h0.some p hm
    rw [hp] at e; cases e
  · rcases List.mem_cons.mp ha with rfl | ha
    · exact r.fresh hp
    · exact q a ha
theorem Rel.dk_write {c : Gh} {G H : Hp} {a : Addr} {d : D} {L : List T3} {kvs : List (Key × V)} {ds : List (D × D)} (r : Rel c G H ((.dk, .ref a, d) :: L)) (h : KvAll c.K G kvs ds) : Rel c G (upd H a (.dK kvs)) ((.dk, .ref a, .dict ds) :: L) := by
  obtain ⟨F, h0, n, q⟩ := r.own
  cases h0 with
  | cons p t =>
    rename_i F1 E
    obtain ⟨b, us, es, h1, h2, h3, h4, h5⟩ := p
    cases h1
    subst h5
    have na : ∀ x, x ∈ E → x ≠ a := fun x hx e => by
      subst e
      exact (List.nodup_cons.mp n).1 hx
    have q0 := q a List.mem_cons_self
    have kG : ∀ x o, G x = some o → x ≠ a := fun x o e z => by subst z; rw [q0.1] at e; cases e
    have kB : ∀ x o, c.B x = some o → x ≠ a := fun x o e z => by subst z; rw [q0.2] at e; cases e
    refine ⟨fun x o e => by rw [upd_ne (kG x o e)]; exact r.sub x o e, fun x o e => by rw [upd_ne (kB x o e)]; exact r.subB x o e, r.pu, fun P hP => ?_, [a] ++ E, .cons ⟨a, kvs, ds, rfl, rfl, upd_same, h, rfl⟩ (Reps.keep (fun x hx => by rw [upd_ne (na x hx)]) t), n, q⟩
    obtain ⟨ps, e, z⟩ := r.tab P hP
    exact ⟨ps, by rw [upd_ne (fun w => by subst w; rw [h3] at e; cases e)]; exact e, z⟩
theorem key_view {c : Gh} {G H : Hp} {L : List T3} {y : MV} {v : V} {k : Key} (rl : Rel c G H L) (h : View c G H y v) (e : keyOfD y.2 = some k) : v = kV k := by
  obtain ⟨m, d⟩ := y
  cases d <;> cases e
  · exact int_of rl h
  · exact str_of rl h
/-! the rules -/
def dicAt (S : SS) (i : Nat) : M (List (D × D)) := match S[i]? with
  | some (some (.dk, .dict ds)) => .ok ds
  | _ => stk
theorem dicAt_ok {S : SS} {i : Nat} {ds : List (D × D)} (h : dicAt S i = .ok ds) : S[i]? = some (some (.dk, .dict ds)) := by
  unfold dicAt at h
  split at h
  · rename_i e; cases h; exact e
  · cases h
def keyM (d : D) : M Key := match keyOfD d with
  | some k => .ok k
  | none => stk
theorem keyM_ok {d : D} {k : Key} (h : keyM d = .ok k) : keyOfD d = some k := by
  unfold keyM at h
  split at h
  · rename_i e; cases h; exact e
  · cases h
/-- {} -/
def fDic0 : FE := fun S => .ok ((.dk, .dict []), S)
/-- d[y], d a name -/
def fDGet (i : Nat) (o : FO) : FE := fun S => do
  let _ ← dicAt S i
  let (t, S1) ← o S
  let ds ← dicAt S1 i
  let y ← tkGet t S1
  let k ← keyM y.2
  match dicGet ds k with
  | some d => pure ((.sh, d), S1)
  | none => stk
/-- y in d -/
def fDIn (neg : Bool) (i : Nat) (o : FO) : FE := fun S => do
  let (t, S1) ← o S
  let ds ← dicAt S1 i
  let y ← tkGet t S1
  let k ← keyM y.2
  pure ((.sh, .bool (if neg then !(dicGet ds k).isSome else (dicGet ds k).isSome)), S1)
/-- d[y] = e -/
def sDPutD (i : Nat) (o : FO) (f : FE) : FS := fun S => do
  let (r, S1) ← f S
  let z ← giveR r
  let _ ← dicAt S1 i
  let (t, S2) ← o S1
  let ds ← dicAt S2 i
  let y ← tkGet t S2
  let k ← keyM y.2
  if ds.length < 1000000 then pure (.nx, S2.set i (some (.dk, .dict (dicPut ds k z.2)))) else stk
section
variable {X : Cx} {c : Gh} {P : List Nat} {pos pos' : Pos}
theorem de_dic0 : PE X (.Dict [] [] pos) (tE c fDic0) := by
  refine pemono pe_dnewK fun σ H Q h => ?_
  obtain ⟨G, S, R, ok, r, S', e, k⟩ := h
  cases e
  exact fun p hp => k G _ _ (Sub.refl G) ⟨ok.cov, ok.rel.new_dk hp .nil⟩
theorem tk_key {G H : Hp} {σ : L2.St} {S : SS} {R : List T3} {t : Tk} {v : V} {y : MV} {k : Key} (ok : SOk c G H σ S (tkR t v ++ R)) (h : tkOk σ t v) (e : tkGet t S = .ok y) (ek : keyM y.2 = .ok k) : v = kV k :=
  key_view ok.rel (tk_view (R := R) ok (fun t ht => List.mem_append_left _ ht) h e) (keyM_ok ek)
theorem SOk.dic {G H : Hp} {σ : L2.St} {S : SS} {R : List T3} (ok : SOk c G H σ S R) {i : Nat} {ds : List (D × D)} (h : dicAt S i = .ok ds) : ∃ a kvs, σ[i]? = some (some (.ref a)) ∧ H a = some (.dK kvs) ∧ KvAll c.K G kvs ds := by
  obtain ⟨v, hv, rl⟩ := ok.slot (dicAt_ok h)
  obtain ⟨a, kvs, ds', rfl, e, h3, h4⟩ := rl.dk_of
  cases e
  exact ⟨a, kvs, hv, h3, h4⟩
theorem de_dget {i : Nat} {x : Str} {e : Expr} {o : FO} {p pos : Pos} (hu : X.A.units + 1 < cLine) (he : PE X e (tO c o)) (hN : X.N[i]? = some x := by rfl) (hv : Vis X.env.scope x := by first | exact Or.inl rfl | exact Or.inr (Or.inl rfl) | exact Or.inr (Or.inr rfl)) (hd : (x == ("__debug__" : Str)) = false := by decide)
    (hcd : (x == ("__classdict__" : Str)) = false := by decide) (hs : NoSl e := by exact fun _ _ => rfl) : PE X (.Subscript (.Name x p) e pos) (tE c (fDGet i o)) := by
  refine pemono (pe_dget hu (pe_var hN hv hd hcd) he hs) fun σ H Q h => ?_
  obtain ⟨G, S, R, ok, r, S', e1, k⟩ := h
  obtain ⟨ds0, e0, e1⟩ := bind_ok e1
  obtain ⟨⟨t, S1⟩, e2, e1⟩ := bind_ok e1
  obtain ⟨ds, e3, e1⟩ := bind_ok e1
  obtain ⟨y, e4, e1⟩ := bind_ok e1
  obtain ⟨kk, e5, e1⟩ := bind_ok e1
  obtain ⟨a, kvs0, h1, h2, h3⟩ := ok.dic e0
  refine ⟨.ref a, h1, G, S, R, ok, t, S1, e2, fun G1 v H1 s1 ht ok1 => ?_⟩
  obtain ⟨a', kvs, h1', h2', h3'⟩ := ok1.dic e3
  rw [h1] at h1'
  cases h1'
  have hv := tk_key ok1 ht e4 e5
  split at e1
  · rename_i d hd
    cases e1
    rcases h3'.get (k := kk) with ⟨_, q⟩ | ⟨v', d', q1, q2, q3⟩
    · rw [hd] at q; cases q
    · rw [hd] at q2
      cases q2
      refine ⟨a, v', rfl, by rw [hv, ← q1]; exact DGet.k h2', k G1 v' H1 s1 ⟨ok1.cov, ?_⟩⟩
      exact (ok1.rel.sublist (List.Sublist.append_right (List.sublist_append_right _ _) _)).put_sh q3
  · cases e1
theorem din_core {i : Nat} {x : Str} {e : Expr} {o : FO} {p : Pos} {neg : Bool} {σ : L2.St} {H : Hp} {Q : VK} (h : tE c (fDIn neg i o) σ H Q) : tO c o σ H fun y H1 => (fun σ H Q => ∃ v, σ[i]? = some (some v) ∧ Q v H : TE) σ H1 fun x H2 => ∃ a ov, x = .ref a ∧ DGet H2 a y ov ∧ Q (.bl (if neg then !ov.isSome else ov.isSome)) H2 := by
  obtain ⟨G, S, R, ok, r, S', e1, k⟩ := h
  obtain ⟨⟨t, S1⟩, e2, e1⟩ := bind_ok e1
  obtain ⟨ds, e3, e1⟩ := bind_ok e1
  obtain ⟨y, e4, e1⟩ := bind_ok e1
  obtain ⟨kk, e5, e1⟩ := bind_ok e1
  cases e1
  refine ⟨G, S, R, ok, t, _, e2, fun G1 v H1 s1 ht ok1 => ?_⟩
  obtain ⟨a', kvs, h1', h2', h3'⟩ := ok1.dic e3
  have hv := tk_key ok1 ht e4 e5
  refine ⟨.ref a', h1', a', valV kvs kk, rfl, by rw [hv]; exact DGet.k h2', ?_⟩
  have eq : (valV kvs kk).isSome = (dicGet ds kk).isSome := by
    rcases h3'.get (k := kk) with ⟨q1, q2⟩ | ⟨v', d', q1, q2, _⟩ <;> rw [q1, q2] <;> rfl
  rw [eq]
  exact k G1 _ H1 s1 ⟨ok1.cov, (ok1.rel.sublist (List.Sublist.append_right (List.sublist_append_right _ _) _)).put_sh (.bl _)⟩
theorem de_din {i : Nat} {x : Str} {e : Expr} {o : FO} {p pos : Pos} (hu : X.A.units + 1 < cLine) (he : PE X e (tO c o)) (hN : X.N[i]? = some x := by rfl) (hv : Vis X.env.scope x := by first | exact Or.inl rfl | exact Or.inr (Or.inl rfl) | exact Or.inr (Or.inr rfl)) (hd : (x == ("__debug__" : Str)) = false := by decide)
    (hcd : (x == ("__classdict__" : Str)) = false := by decide) (hm : behindInMarks .In (.Name x p) = false := by first | rfl | exact nomark _) : PE X (.Compare e [.In] [.Name x p] pos) (tE c (fDIn false i o)) :=
  pemono (pe_cmp (pc_din hu he (pe_var hN hv hd hcd)) hm) fun σ H Q h => din_core (x := x) (e := e) (p := p) h
theorem dt_din {i : Nat} {x : Str} {e : Expr} {o : FO} {p pos : Pos} (hu : X.A.units + 1 < cLine) (he : PE X e (tO c o)) (hN : X.N[i]? = some x := by rfl) (hv : Vis X.env.scope x := by first | exact Or.inl rfl | exact Or.inr (Or.inl rfl) | exact Or.inr (Or.inr rfl)) (hd : (x == ("__debug__" : Str)) = false := by decide)
    (hcd : (x == ("__classdict__" : Str)) = false := by decide) (hm : behindInMarks .In (.Name x p) = false := by first | rfl | exact nomark _) : PT X (.Compare e [.In] [.Name x p] pos) (tT c (tB1 (fDIn false i o))) :=
  ptmono (pt_cmp (pc_din hu he (pe_var hN hv hd hcd)) hm) fun σ H Q h => by
    obtain ⟨G, S, R, ok, r, S1, e, k⟩ := tb_read h
    exact din_core (x := x) (p := p) (e := .Name x p) ⟨G, S, R, ok, r, S1, e, k⟩
theorem de_dnotin {i : Nat} {x : Str} {e : Expr} {o : FO} {p pos : Pos} (hu : X.A.units + 1 < cLine) (he : PE X e (tO c o)) (hN : X.N[i]? = some x := by rfl) (hv : Vis X.env.scope x := by first | exact Or.inl rfl | exact Or.inr (Or.inl rfl) | exact Or.inr (Or.inr rfl)) (hd : (x == ("__debug__" : Str)) = false := by decide)
    (hcd : (x == ("__classdict__" : Str)) = false := by decide) (hm : behindInMarks .NotIn (.Name x p) = false := by first | rfl | exact nomark _) : PE X (.Compare e [.NotIn] [.Name x p] pos) (tE c (fDIn true i o)) :=
  pemono (pe_cmp (pc_dnotin hu he (pe_var hN hv hd hcd)) hm) fun σ H Q h => din_core (x := x) (e := e) (p := p) h
theorem dt_dnotin {i : Nat} {x : Str} {e : Expr} {o : FO} {p pos : Pos} (hu : X.A.units + 1 < cLine) (he : PE X e (tO c o)) (hN : X.N[i]? = some x := by rfl) (hv : Vis X.env.scope x := by first | exact Or.inl rfl | exact Or.inr (Or.inl rfl) | exact Or.inr (Or.inr rfl)) (hd : (x == ("__debug__" : Str)) = false := by decide)
    (hcd : (x == ("__classdict__" : Str)) = false := by decide) (hm : behindInMarks .NotIn (.Name x p) = false := by first | rfl | exact nomark _) : PT X (.Compare e [.NotIn] [.Name x p] pos) (tT c (tB1 (fDIn true i o))) :=
  ptmono (pt_cmp (pc_dnotin hu he (pe_var hN hv hd hcd)) hm) fun σ H Q h => by
    obtain ⟨G, S, R, ok, r, S1, e, k⟩ := tb_read h
    exact din_core (x := x) (p := p) (e := .Name x p) ⟨G, S, R, ok, r, S1, e, k⟩
theorem ds_dput {i : Nat} {x : Str} {e v : Expr} {o : FO} {f : FE} {p : Pos} (hu : X.A.units + 1 < cLine) (hvl : PE X v (tE c f)) (he : PE X e (tO c o)) (hN : X.N[i]? = some x := by rfl) (hv : Vis X.env.scope x := by first | exact Or.inl rfl | exact Or.inr (Or.inl rfl) | exact Or.inr (Or.inr rfl)) (hd : (x == ("__debug__" : Str)) = false := by decide)
    (hcd : (x == ("__classdict__" : Str)) = false := by decide) (hs : swapsWith v (some (.Subscript (.Name x p) e pos')) pos.line X.env = pure false := by rfl) : PS X (.Assign [.Subscript (.Name x p) e pos'] v pos) (tS c P (sDPutD i o f)) := by
  refine psmono (ps_dput hu (pe_var hN hv hd hcd) he hvl hs) fun D σ H h => ?_
  obtain ⟨G, S, R, ok, fl, S', e1, k⟩ := h
  obtain ⟨⟨r, S1⟩, e2, e1⟩ := bind_ok e1
  obtain ⟨z, e3, e1⟩ := bind_ok e1
  obtain ⟨ds0, e0, e1⟩ := bind_ok e1
  obtain ⟨⟨t, S2⟩, e4, e1⟩ := bind_ok e1
  obtain ⟨ds, e5, e1⟩ := bind_ok e1
  obtain ⟨y, e6, e1⟩ := bind_ok e1
  obtain ⟨kk, e7, e1⟩ := bind_ok e1
  refine ⟨G, S, R, ok, r, S1, e2, fun G1 vv H1 s1 ok1 => ?_⟩
  obtain ⟨hz, G2, s2, rl2⟩ := Rel.give ok1.rel e3
  have ok2 : SOk c G2 H1 σ S1 ((.sh, vv, r.2) :: R) := ⟨ok1.cov, rl2⟩
  obtain ⟨a, kvs0, h1, h2, h3⟩ := ok2.dic e0
  refine ⟨.ref a, h1, G2, S1, _, ok2, t, S2, e4, fun G3 v3 H3 s3 ht ok3 => ?_⟩
  have hkey := tk_key ok3 ht e6 e7
  have ok4 : SOk c G3 H3 σ S2 ((.sh, vv, r.2) :: R) := ⟨ok3.cov, ok3.rel.sublist (List.Sublist.append_right (List.sublist_append_right _ _) _)⟩
  obtain ⟨w, hw, rl⟩ := ok4.slot (dicAt_ok e5)
  rw [h1] at hw
  cases hw
  obtain ⟨a', kvs, ds', ea, ed, h5, h6⟩ := rl.dk_of
  cases ea
  cases ed
  split at e1
  · rename_i hl
    cases e1
    have hq : Dq c.K G3 vv r.2 := ok4.rel.sh_of
    have lt : kvs.length < sizeLine := by
      rw [h6.len]
      have : (1000000 : Nat) ≤ sizeLine := by decide
      omega
    rw [hkey]
    refine ⟨a, _, rfl, DPut.k (k := kk) h5 lt, ?_⟩
    have rl3 := rl.dk_write (h6.put (k := kk) hq)
    subst hz
    refine k G3 σ _ ((s1.trans s2).trans s3) (Prot.refl σ) ?_
    refine SOk.put ok4.cov h1 (lt_of_get (dicAt_ok e5)) ?_
    exact rl3.sublist (List.Sublist.cons_cons _ (List.Sublist.append_right (List.sublist_cons_self _ _) _))
  · cases e1
end
end O
set_option maxRecDepth 100000
set_option maxHeartbeats 1600000
/-! list(range(..)), tuple(range(..)); rooms -/
namespace O
open PySem PySem.Spec PyProof.Rows L2
theorem hu160 {k : Nat} {A : Around} (r : Room k A) : A.units + 160 < cLine := by have := r.un; omega
theorem huI {k : Nat} {A : Around} (r : Room k A) : A.units + 1 < cLine := by have := r.un; omega
theorem bt_sorted : bootBuiltins "sorted" = some (.builtin "sorted") := by decide +kernel
theorem dq_rg {K : PySem.W.Frag} {G : Hp} {a : Int} : ∀ (l : List Nat), DqAll K G (l.map fun i => V.int (a + (i : Nat))) (l.map fun i => .int (a + (i : Nat) * 1))
  | [] => .nil
  | x :: l => by
    rw [List.map_cons, List.map_cons, Int.mul_one]
    exact .cons (.int _) (dq_rg l)
theorem dq_rgV {K : PySem.W.Frag} {G : Hp} {a b : Int} : DqAll K G (rgV a b) (rangeD a 1 (b - a).toNat) := dq_rg _
theorem strs_rg {f : Nat → Int} : ∀ (l : List Nat), strsD (l.map fun i => .int (f i)) = false
  | [] => rfl
  | _ :: _ => rfl
/-- list(range(n)), tuple(range(n)) -/
def fRg1 (tup : Bool) (f : FE) : FE := fun S => do
  let (r, S1) ← f S
  match r.2 with
  | .int n => if decide (-1000000 ≤ n) && decide (n ≤ 1000000) then (if tup then pure ((.sh, .tuple (rangeD 0 1 n.toNat)), S1) else pure ((.ow .sh, .list (rangeD 0 1 n.toNat)), S1)) else stk
  | _ => stk
/-- list(range(i, n)), tuple(range(i, n)) -/
def fRg2 (tup : Bool) (f g : FE) : FE := fun S => do
  let (r, S1) ← f S
  let (q, S2) ← g S1
  match r.2, q.2 with
  | .int i, .int n => if decide (-1000000 ≤ n) && decide (n ≤ 1000000) && (decide (-1000000 ≤ i) && decide (i ≤ 1000000)) then (if tup then pure ((.sh, .tuple (rangeD i 1 (n - i).toNat)), S2) else pure ((.ow .sh, .list (rangeD i 1 (n - i).toNat)), S2)) else stk
  | _, _ => stk
section
variable {X : Cx} {c : Gh} {P : List Nat} {pos pos' : Pos}
theorem rgok1 {n : Int} (h : (decide (-1000000 ≤ n) && decide (n ≤ 1000000)) = true) : RgOk 0 n := by
  rw [Bool.and_eq_true, decide_eq_true_eq, decide_eq_true_eq] at h
  refine ⟨?_, ?_, ?_, ?_, ?_⟩ <;> omega
theorem rgok2 {i n : Int} (h : (decide (-1000000 ≤ n) && decide (n ≤ 1000000) && (decide (-1000000 ≤ i) && decide (i ≤ 1000000))) = true) : RgOk i n := by
  rw [Bool.and_eq_true, Bool.and_eq_true, Bool.and_eq_true, decide_eq_true_eq, decide_eq_true_eq, decide_eq_true_eq, decide_eq_true_eq] at h
  refine ⟨?_, ?_, ?_, ?_, ?_⟩ <;> omega
theorem sok_new_lst {G H : Hp} {σ : L2.St} {S : SS} {R : List T3} {m : Md} {d : D} {v : V} {a b : Int} (hK : c.K = X.K) (ok : SOk c G H σ S ((m, v, d) :: R)) {Q : VK} (k : ∀ G' v H', Sub G G' → SOk c G' H' σ S ((.ow .sh, v, .list (rangeD a 1 (b - a).toNat)) :: R) → Q v H') : ∀ q, H q = none → Q (.ref q) (upd H q (.lst (rgV a b))) := fun q hq =>
  k G _ _ (Sub.refl G) ⟨ok.cov, (ok.rel.sublist (List.sublist_cons_self _ _)).new_lst hq dq_rgV⟩
theorem sok_new_tup {G H : Hp} {σ : L2.St} {S : SS} {R : List T3} {m : Md} {d : D} {v : V} {a b : Int} (hK : c.K = X.K) (ok : SOk c G H σ S ((m, v, d) :: R)) {Q : VK} (k : ∀ G' v H', Sub G G' → SOk c G' H' σ S ((.sh, v, .tuple (rangeD a 1 (b - a).toNat)) :: R) → Q v H') : ∀ q, H q = none → Q (.ref q) (upd H q (.tup (rgV a b))) := fun q hq => by
  obtain ⟨s, r2⟩ := (ok.rel.sublist (List.sublist_cons_self _ _)).new_tup hq (dq_rgV (a := a) (b := b)) (strs_rg _)
  exact k _ _ _ s ⟨ok.cov, r2⟩
theorem de_rgL1 (hK : c.K = X.K) {a : Expr} {f : FE} {p p2 q : Pos} (hc : X.calm = true) (hg : Gl X "list") (hm : X.mg "list" = none) (hg2 : Gl X "range") (hm2 : X.mg "range" = none) (ha : PE X a (tE c f)) (na : starEach [a] X.env = (false, eval a X.env) :: starEach [] X.env := by rfl)
    (nb : starEach [.Call (.Name "range" p2) [a] [] q] X.env = (false, eval (.Call (.Name "range" p2) [a] [] q) X.env) :: starEach [] X.env := by rfl) : PE X (.Call (.Name "list" p) [.Call (.Name "range" p2) [a] [] q] [] pos) (tE c (fRg1 false f)) :=
  pemono (pe_listRg hc hg hm (prg_1 hg2 hm2 ha na) nb) fun σ H Q h => by
    obtain ⟨G, S, R, ok, r, S', e, k⟩ := h
    obtain ⟨⟨⟨m, d⟩, S1⟩, e1, e⟩ := bind_ok e
    refine ⟨G, S, R, ok, (m, d), S1, e1, fun G1 v H1 s1 ok1 => ?_⟩
    dsimp only at e
    split at e
    · split at e
      · rename_i n hn
        cases e
        obtain rfl := int_of ok1.rel (ok1.rel.view (List.mem_append_left _ List.mem_cons_self))
        refine ⟨n, rfl, rgok1 hn, ?_⟩
        have := sok_new_lst (a := 0) (b := n) hK ok1 (Q := Q) fun G2 v H2 s2 ok2 => k G2 v H2 (s1.trans s2) (by rw [Int.sub_zero] at ok2; exact ok2)
        exact this
      · cases e
    · cases e
theorem de_rgT1 (hK : c.K = X.K) {a : Expr} {f : FE} {p p2 q : Pos} (hc : X.calm = true) (hg : Gl X "tuple") (hm : X.mg "tuple" = none) (hg2 : Gl X "range") (hm2 : X.mg "range" = none) (ha : PE X a (tE c f)) (na : starEach [a] X.env = (false, eval a X.env) :: starEach [] X.env := by rfl)
    (nb : starEach [.Call (.Name "range" p2) [a] [] q] X.env = (false, eval (.Call (.Name "range" p2) [a] [] q) X.env) :: starEach [] X.env := by rfl) : PE X (.Call (.Name "tuple" p) [.Call (.Name "range" p2) [a] [] q] [] pos) (tE c (fRg1 true f)) :=
  pemono (pe_tupRg hc hg hm (prg_1 hg2 hm2 ha na) nb) fun σ H Q h => by
    obtain ⟨G, S, R, ok, r, S', e, k⟩ := h
    obtain ⟨⟨⟨m, d⟩, S1⟩, e1, e⟩ := bind_ok e
    refine ⟨G, S, R, ok, (m, d), S1, e1, fun G1 v H1 s1 ok1 => ?_⟩
    dsimp only at e
    split at e
    · split at e
      · rename_i n hn
        cases e
        obtain rfl := int_of ok1.rel (ok1.rel.view (List.mem_append_left _ List.mem_cons_self))
        refine ⟨n, rfl, rgok1 hn, ?_⟩
        have := sok_new_tup (a := 0) (b := n) hK ok1 (Q := Q) fun G2 v H2 s2 ok2 => k G2 v H2 (s1.trans s2) (by rw [Int.sub_zero] at ok2; exact ok2)
        exact this
      · cases e
    · cases e
theorem de_rgL2 (hK : c.K = X.K) {a b : Expr} {f g : FE} {p p2 q : Pos} (hc : X.calm = true) (hg : Gl X "list") (hm : X.mg "list" = none) (hg2 : Gl X "range") (hm2 : X.mg "range" = none) (ha : PE X a (tE c f)) (hb : PE X b (tE c g)) (na : starEach [a, b] X.env = (false, eval a X.env) :: starEach [b] X.env := by rfl)
    (nb : starEach [b] X.env = (false, eval b X.env) :: starEach [] X.env := by rfl) (hp : (backTo q (starEach [b] X.env)).any (·.1) = false := by rfl)
    (nc : starEach [.Call (.Name "range" p2) [a, b] [] q] X.env = (false, eval (.Call (.Name "range" p2) [a, b] [] q) X.env) :: starEach [] X.env := by rfl) : PE X (.Call (.Name "list" p) [.Call (.Name "range" p2) [a, b] [] q] [] pos) (tE c (fRg2 false f g)) :=
  pemono (pe_listRg hc hg hm (prg_2 hg2 hm2 ha hb na nb hp) nc) fun σ H Q h => by
    obtain ⟨G, S, R, ok, r, S', e, k⟩ := h
    obtain ⟨⟨⟨m, d⟩, S1⟩, e1, e⟩ := bind_ok e
    obtain ⟨⟨⟨m2, d2⟩, S2⟩, e2, e⟩ := bind_ok e
    refine ⟨G, S, R, ok, (m, d), S1, e1, fun G1 v H1 s1 ok1 => ⟨G1, S1, _, ok1, (m2, d2), S2, e2, fun G2 v2 H2 s2 ok2 => ?_⟩⟩
    dsimp only at e
    split at e
    · split at e
      · rename_i i n _ hn
        cases e
        obtain rfl := int_of ok2.rel (ok2.rel.view (List.mem_append_left _ (List.mem_cons_of_mem _ List.mem_cons_self)))
        obtain rfl := int_of ok2.rel (ok2.rel.view (List.mem_append_left _ List.mem_cons_self))
        refine ⟨i, n, rfl, rfl, rgok2 hn, ?_⟩
        exact sok_new_lst hK ok2 fun G3 v H3 s3 ok3 => k G3 v H3 ((s1.trans s2).trans s3) ⟨ok3.cov, ok3.rel.sublist (List.Sublist.cons_cons _ (List.Sublist.append_right (List.sublist_cons_self _ _) _))⟩
      · cases e
    · cases e
theorem de_rgT2 (hK : c.K = X.K) {a b : Expr} {f g : FE} {p p2 q : Pos} (hc : X.calm = true) (hg : Gl X "tuple") (hm : X.mg "tuple" = none) (hg2 : Gl X "range") (hm2 : X.mg "range" = none) (ha : PE X a (tE c f)) (hb : PE X b (tE c g)) (na : starEach [a, b] X.env = (false, eval a X.env) :: starEach [b] X.env := by rfl)
    (nb : starEach [b] X.env = (false, eval b X.env) :: starEach [] X.env := by rfl) (hp : (backTo q (starEach [b] X.env)).any (·.1) = false := by rfl)
    (nc : starEach [.Call (.Name "range" p2) [a, b] [] q] X.env = (false, eval (.Call (.Name "range" p2) [a, b] [] q) X.env) :: starEach [] X.env := by rfl) : PE X (.Call (.Name "tuple" p) [.Call (.Name "range" p2) [a, b] [] q] [] pos) (tE c (fRg2 true f g)) :=
  pemono (pe_tupRg hc hg hm (prg_2 hg2 hm2 ha hb na nb hp) nc) fun σ H Q h => by
    obtain ⟨G, S, R, ok, r, S', e, k⟩ := h
    obtain ⟨⟨⟨m, d⟩, S1⟩, e1, e⟩ := bind_ok e
    obtain ⟨⟨⟨m2, d2⟩, S2⟩, e2, e⟩ := bind_ok e
    refine ⟨G, S, R, ok, (m, d), S1, e1, fun G1 v H1 s1 ok1 => ⟨G1, S1, _, ok1, (m2, d2), S2, e2, fun G2 v2 H2 s2 ok2 => ?_⟩⟩
    dsimp only at e
    split at e
    · split at e
      · rename_i i n _ hn
        cases e
        obtain rfl := int_of ok2.rel (ok2.rel.view (List.mem_append_left _ (List.mem_cons_of_mem _ List.mem_cons_self)))
        obtain rfl := int_of ok2.rel (ok2.rel.view (List.mem_append_left _ List.mem_cons_self))
        refine ⟨i, n, rfl, rfl, rgok2 hn, ?_⟩
        exact sok_new_tup hK ok2 fun G3 v H3 s3 ok3 => k G3 v H3 ((s1.trans s2).trans s3) ⟨ok3.cov, ok3.rel.sublist (List.Sublist.cons_cons _ (List.Sublist.append_right (List.sublist_cons_self _ _) _))⟩
      · cases e
    · cases e
end
/-- t.index(x): texts -/
def semIndexT : SemN := fun rs => match rs with
  | [(.sh, .tuple ds), q] => match q.2 with
    | .str z => do
      let ys ← strsOf ds
      if ys.any (fun y => decide (y = z)) then pure (.sh, .int (ys.findIdx (fun y => decide (y = z)) : Nat)) else stk
    | _ => stk
  | _ => stk
theorem m_indexT {X : Cx} {c : Gh} (hK : c.K = X.K) : MtR X "tuple.index" (rMv c semIndexT) := by
  intro pins s σ H x vs v us Q I rx rv h
  obtain ⟨G, L, r0, rs, r, rl, hx, hv, e, k⟩ := h
  unfold semIndexT at e
  split at e
  · rename_i ds q hq
    cases hq
    obtain ⟨m, d⟩ := q
    simp only at e
    split at e
    · rename_i z
      obtain ⟨ys, e1, e⟩ := bind_ok e
      split at e
      · rename_i hany
        cases e
        obtain ⟨y, rfl, hy⟩ := views1 hv
        have hy := str_of rl hy
        subst hy
        have hd := sh_dq hx
        cases hd with
        | tup a b =>
          have hys := strs_vals b e1
          subst hys
          rw [hK] at a
          have hlt : ys.findIdx (fun y => decide (y = z)) < ys.length := List.findIdx_lt_length_of_exists (by simpa using hany)
          refine mt_tup_index pins s σ H _ _ v us Q I rx rv ⟨_, ys, z, ys.findIdx (fun y => decide (y = z)), rfl, rfl, SqT.sub rl.sub a, ?_, fun j hj hz => ?_, r2_end rl k rfl (.int _)⟩
          · rw [List.getElem?_eq_getElem hlt]
            have := List.findIdx_getElem (w := hlt)
            rw [decide_eq_true_eq] at this
            rw [this]
          · have h2 := List.not_of_lt_findIdx hj
            rw [List.getElem?_eq_some_iff] at hz
            obtain ⟨w, hz⟩ := hz
            subst hz
            simp at h2
      · cases e
    · cases e
  · cases e
/-! methods of a tuple of texts -/
def tyT (K : PySem.W.Frag) (x : V) (H : Hp) : Prop := ∃ p xs, x = .ref p ∧ SqT K H p xs ∧ TupX K H p
theorem tyT_is {X : Cx} {pins : List (Addr × Obj)} {σ : L2.St} {H : Hp} {s : Shared} {x : V} {v : Value} (I : Inv X pins σ H s) (r : RelV x v) (ty : tyT X.K x H) :
    s.TypeIs v "tuple" ∧ ∀ a, v = .ref a → ∃ ob, s.heap.get? a = some ob ∧ ob.dict = none := by
  obtain ⟨p, xs, rfl, hq, ht⟩ := ty
  cases r
  obtain ⟨its, _, pl, _⟩ := I.tuple hq
  refine ⟨pl.typeIs, fun a e => ?_⟩
  cases e
  rcases ht with ⟨o, hk, _, hd⟩ | ⟨o, u, e, hd⟩
  · exact ⟨o, I.kIn _ o hk, hd⟩
  · obtain ⟨g, _⟩ := (show ObjOk X.prog X.w H s.heap p (.frz o u) from I.hok p _ e)
    exact ⟨o, g, hd⟩
def tBT (K : PySem.W.Frag) (r : V → List V → Hp → VK → Prop) (to : TE) (t : TA) : TE := fun σ H Q => to σ H fun x H1 => tyT K x H1 ∧ t σ H1 fun xs H2 => r x xs H2 Q
theorem pe_bmT {X : Cx} {o e : Expr} {es : List Expr} {to : TE} {t : TA} {name : Str} {apos cpos : Pos} {id : String} {r : V → List V → Hp → VK → Prop} (pa : PlainAttrs "tuple") (slot : Slot "tuple" name id) (hty : typeOf (.builtin id) = pure (.type "method_descriptor")) (hm : MtR X id r) (ho : PE X o to) (ha : PA X (e :: es) t)
    (hbase : attributeBase o name X.env (eval o X.env) = eval o X.env := by rfl)
    (hfew : ((backTo cpos (starEach (e :: es) X.env)).all (fun x => !x.1) && (backToKw cpos (keywordEach [] X.env)).all (fun x => x.1.isSome)
      && decide ((e :: es).length + ([] : List Keyword).length + (if ([] : List Keyword).isEmpty then 0 else 1) < 30)) = true := by rfl)
    (hline : (apos.endLine == cpos.line) = true := by rfl) (hs : starEach (e :: es) X.env = (false, eval e X.env) :: starEach es X.env := by rfl) (hplain : (backTo cpos (starEach es X.env)).any (·.1) = false := by rfl) :
    PE X (.Call (.Attribute o name apos) (e :: es) [] cpos) (tBT X.K r to t) := by
  refine ⟨fun pins s σ H Q I h => ?_⟩
  refine wpAny_Call_method_late hbase hfew hline rfl (thn (ho.run pins s σ H _ I h) fun v s1 ⟨x, H1, I1, r1, ty, q1⟩ => ?_)
  obtain ⟨h1, h2⟩ := tyT_is I1 r1 ty
  refine ⟨"tuple", id, pa, slot, hty, h1, h2, ?_⟩
  have hA := ha.run cpos pins s1 σ H1 _ I1 q1
  rw [hs] at hA ⊢
  refine Calls.callWith_builtin (by show (false || (backTo cpos (starEach es X.env)).any (·.1)) = false; rw [hplain] <;> rfl) (Calls.evalArgs_plain ?_)
  exact thn hA fun us s2 ⟨vs, H2, I2, r2, q2⟩ => hm pins s2 σ H2 x vs v us Q I2 r1 r2 q2
def strsR : MV → Bool
  | (.sh, .tuple ds) => strsD ds
  | _ => false
def fMvT (sem : SemN) (o : FO) (f : FA) : FE := fun S => do
  let (t, S1) ← o S
  let r0 ← tkGet t S1
  if strsR r0 then do
    let (ts, S2) ← f S1
    let r ← tkGet t S2
    let rs ← tkGets ts S2
    let z ← sem (r :: rs)
    pure (z, S2)
  else stk
theorem strs_ty {X : Cx} {c : Gh} {G H : Hp} {L : List T3} {r : MV} {v : V} (rl : Rel c G H L) (h : View c G H r v) (hk : strsR r = true) (hK : c.K = X.K) : tyT X.K v H := by
  unfold strsR at hk
  split at hk
  · cases sh_dq h with
    | tup a b f =>
      rw [← hK]
      exact ⟨_, _, rfl, SqT.sub rl.sub a, (f hk).sub rl.sub⟩
  · cases hk
theorem de_mvT {X : Cx} {c : Gh} {name : Str} {id : String} {sem : SemN} {oe e : Expr} {es : List Expr} {o : FO} {f : FA} {apos cpos : Pos} (hK : c.K = X.K) (pa : PlainAttrs "tuple") (slot : Slot "tuple" name id) (hty : typeOf (.builtin id) = pure (.type "method_descriptor")) (hm : MtR X id (rMv c sem))
    (ho : PE X oe (tO c o)) (ha : PA X (e :: es) (tA c f))
    (hbase : attributeBase oe name X.env (eval oe X.env) = eval oe X.env := by rfl)
    (hfew : ((backTo cpos (starEach (e :: es) X.env)).all (fun x => !x.1) && (backToKw cpos (keywordEach [] X.env)).all (fun x => x.1.isSome)
      && decide ((e :: es).length + ([] : List Keyword).length + (if ([] : List Keyword).isEmpty then 0 else 1) < 30)) = true := by rfl)
    (hline : (apos.endLine == cpos.line) = true := by rfl) (hs : starEach (e :: es) X.env = (false, eval e X.env) :: starEach es X.env := by rfl) (hplain : (backTo cpos (starEach es X.env)).any (·.1) = false := by rfl) :
    PE X (.Call (.Attribute oe name apos) (e :: es) [] cpos) (tE c (fMvT sem o f)) :=
  pemono (pe_bmT pa slot hty hm ho ha hbase hfew hline hs hplain) fun σ H Q h => by
    obtain ⟨G, S, R, ok, r, S', e, k⟩ := h
    obtain ⟨⟨t, S1⟩, e1, e⟩ := bind_ok e
    obtain ⟨r0, e2, e⟩ := bind_ok e
    split at e
    · rename_i hk
      obtain ⟨⟨ts, S2⟩, e3, e⟩ := bind_ok e
      obtain ⟨r1, e4, e⟩ := bind_ok e
      obtain ⟨rs, e5, e⟩ := bind_ok e
      obtain ⟨z, e6, e⟩ := bind_ok e
      cases e
      refine ⟨G, S, R, ok, t, S1, e1, fun G1 v H1 s1 h1 ok1 => ⟨?_, ?_⟩⟩
      · exact strs_ty ok1.rel (tk_view (R := R) ok1 (fun x hx => List.mem_append_left _ hx) h1 e2) hk hK
      · refine ⟨G1, S1, _, ok1, ts, _, e3, fun G2 vs H2 s2 h2 ok2 => ?_⟩
        refine ⟨G2, _, r1, rs, r, ok2.rel, tk_view (R := R) ok2 (fun x hx => List.mem_append_right _ (List.mem_append_left _ hx)) h1 e4, tks_views ok2 (fun x hx => List.mem_append_left _ hx) h2 e5, e6, fun G' w H' s rl => ?_⟩
        refine k G' w H' ((s1.trans s2).trans s) ⟨ok2.cov, rl.sublist (List.Sublist.cons_cons _ (List.Sublist.append_right ?_ _))⟩
        exact (List.sublist_append_right _ _).trans (List.sublist_append_right _ _)
    · cases e
/-! sum over a tuple too -/
theorem sum_rawT {prog : Program} {w : World} {A : Around} {E : Value → Shared → Prop} {s : Shared} {l : Addr} {its : List Value} {ns : List Int} {Q : Value → Shared → Prop} (hh : A.handled = none) (hl : s.heap.IsTuple l its.toArray) (hi : IntsAre its ns)
    (h : ∀ h' tk t', (∀ b o, s.heap.get? b = some o → h'.get? b = some o) → Q (.int ns.sum t') { s with heap := h', toks := tk }) : wpAny (model prog w) A (call (.builtin "sum") [.ref l]) Q E s := by
  obtain ⟨xs, e⟩ := hi.allInts.items
  have hn : numsOf (intItems xs).toList = ns := by rw [← e]; exact hi.numsOf
  rw [nums_intItems] at hn
  rw [e] at hl
  refine PySem.W.ktm_sumG hh hl fun h' tk t' hk => ?_
  have := h h' tk t' hk
  rw [preSum_eq, List.take_of_length_le (by simp), hn]; exact this
def semSumT : SemN := fun rs => match rs with
  | [(.sh, .tuple ds)] => do
    let bs ← intsOf ds
    pure (.sh, .int bs.sum)
  | _ => semSum rs
theorem c_sumT {X : Cx} {c : Gh} (hK : c.K = X.K) (hc : X.calm = true) : CallR X (.builtin "sum") (rND c semSumT) := by
  intro pins s σ H xs us Q I rv h
  obtain ⟨G, L, rs, r, rl, hv, e, k⟩ := h
  unfold semSumT at e
  split at e
  · obtain ⟨v, rfl, hw⟩ := views1 hv
    obtain ⟨bs, e2, e⟩ := bind_ok e
    cases e
    have hd := sh_dq hw
    cases hd with
    | tup a b =>
      have hys := ints_vals b e2
      subst hys
      rw [hK] at a
      obtain ⟨its, rv', pl, _⟩ := I.tuple (SqT.sub rl.sub a)
      rw [Vals.ref1 rv]
      exact sum_rawT (I.ok.hd hc) pl rv'.ints fun h' tk t' hk => ⟨.int _, H, I.kept hk, ⟨_, rfl⟩, r2_end rl k rfl (.int _)⟩
  · exact c_sum hc pins s σ H xs us Q I rv ⟨G, L, rs, r, rl, hv, e, k⟩
end O
set_option maxRecDepth 100000
set_option maxHeartbeats 4000000
namespace C53
open PySem O
def k_DIGITS : D := .str "0123456789"
def k_MAX_COST : D := .int 1000
def k_MAX_LOAD : D := .int 200000
def k_MAX_OFFICES : D := .int 40
def k_MAX_ROOM : D := .int 1000
def k_MAX_VANS : D := .int 200
def k_RESERVED : D := .tuple [.str "all", .str "any", .str "none"]
def k_SMALL : D := .str "abcdefghijklmnopqrstuvwxyz"
def b_is_name_E1 : FE :=
  fOrV (fOp2 semIn (oP 1) (oV (fCon k_SMALL))) (fOp2 semIn (oP 1) (oV (fCon k_DIGITS)))
def b_is_name : FS :=
  sSeq (sIf (fOrT (fNotT (tB1 (fO1 (semIsT .str) (oP 0)))) (fOrT (fNotT (tB1 (fChain semLeI semLeI (oV (fCon (.int 1))) (oV (fN semLen (aCons (oP 0) (aNil)))) (oV (fCon (.int 8)))))) (tB1 (fOp2 semIn (oP 0) (oV (fCon k_RESERVED)))))) (sRet (fCon (.bool false))) (sNil)) (
  sRet (fAndV (fOp2 semIn (oV (fOp2 semIx (oP 0) (oV (fCon (.int 0))))) (oV (fCon k_SMALL))) (fGB false 2 [1] (fiSeq (fVar 0)) (gNm 1) (ftYes) (b_is_name_E1))))
def m_is_name : SemF := runD 2 [] b_is_name
def b_is_number : FS :=
  sRet (fAndV (fO1 (semIsT .int) (oP 0)) (fAndV (fNotV (fO1 (semIsT .bool) (oP 0))) (fChain semLeI semLeI (oP 1) (oP 0) (oP 2))))
def m_is_number : SemF := runD 3 [] b_is_number
def b_is_ascending_E1 : FE :=
  fOp2 semLt (oV (fOp2 semIx (oP 0) (oP 1))) (oV (fOp2 semIx (oP 0) (oV (fOp2 semAdd (oP 1) (oV (fCon (.int 1)))))))
def b_is_ascending : FS :=
  sRet (fGB false 2 [1] (fiA (onD rng1) (aCons (oV (fOp2 semSub (oV (fN semLen (aCons (oP 0) (aNil)))) (oV (fCon (.int 1))))) (aNil))) (gNm 1) (ftYes) (b_is_ascending_E1))
def m_is_ascending : SemF := runD 2 [] b_is_ascending
def b_is_van : FS :=
  sSeq (sIf (fOrT (fNotT (tB1 (fO1 (semIsT .tuple) (oP 1)))) (tB1 (fOp2 semNe (oV (fN semLen (aCons (oP 1) (aNil)))) (oV (fCon (.int 4)))))) (sRet (fCon (.bool false))) (sNil)) (
  sSeq (sAsg (gTp 4 (gsCons (gNm 2) (gsCons (gNm 3) (gsCons (gNm 4) (gsCons (gNm 5) (gsNil)))))) (fVar 1)) (
  sSeq (sIf (fOrT (fNotT (tB1 (fO1 (semIsT .str) (oP 2)))) (fOrT (fNotT (tB1 (fO1 (semIsT .str) (oP 3)))) (fOrT (tB1 (fOp2 semEq (oP 2) (oP 3))) (fOrT (tB1 (fOp2 semNotIn (oP 2) (oP 0))) (tB1 (fOp2 semNotIn (oP 3) (oP 0))))))) (sRet (fCon (.bool false))) (sNil)) (
  sRet (fAndV (fCall 3 [] m_is_number (aCons (oV (fVar 4)) (aCons (oV (fCon (.int 1))) (aCons (oV (fCon k_MAX_ROOM)) (aNil))))) (fCall 3 [] m_is_number (aCons (oV (fVar 5)) (aCons (oV (fCon (.int 0))) (aCons (oV (fCon k_MAX_COST)) (aNil)))))))))
def m_is_van : SemF := runD 6 [] b_is_van
def b_is_network_E1 : FE :=
  fCall 1 [] m_is_name (aCons (oV (fVar 3)) (aNil))
def b_is_network_E2 : FE :=
  fCall 2 [] m_is_van (aCons (oV (fVar 1)) (aCons (oV (fVar 4)) (aNil)))
def b_is_network : FS :=
  sSeq (sIf (fOrT (fNotT (tB1 (fO1 (semIsT .tuple) (oP 0)))) (tB1 (fOp2 semNe (oV (fN semLen (aCons (oP 0) (aNil)))) (oV (fCon (.int 2)))))) (sRet (fCon (.bool false))) (sNil)) (
  sSeq (sAsg (gTp 2 (gsCons (gNm 1) (gsCons (gNm 2) (gsNil)))) (fVar 0)) (
  sSeq (sIf (fOrT (fNotT (tB1 (fO1 (semIsT .tuple) (oP 1)))) (fOrT (tB1 (fOp2 semGtI (oV (fN semLen (aCons (oP 1) (aNil)))) (oV (fCon k_MAX_OFFICES)))) (fNotT (tB1 (fGB false 5 [3] (fiSeq (fVar 1)) (gNm 3) (ftYes) (b_is_network_E1)))))) (sRet (fCon (.bool false))) (sNil)) (
  sSeq (sIf (fOrT (fNotT (tB1 (fO1 (semIsT .tuple) (oP 2)))) (fOrT (tB1 (fOp2 semGtI (oV (fN semLen (aCons (oP 2) (aNil)))) (oV (fCon k_MAX_VANS)))) (fNotT (tB1 (fGB false 5 [4] (fiSeq (fVar 2)) (gNm 4) (ftYes) (b_is_network_E2)))))) (sRet (fCon (.bool false))) (sNil)) (
  sRet (fAndV (fCall 1 [] m_is_ascending (aCons (oV (fVar 1)) (aNil))) (fCall 1 [] m_is_ascending (aCons (oV (fVar 2)) (aNil))))))))
def m_is_network : SemF := runD 5 [] b_is_network
def b_numbered_L1 : FS :=
  sDPutD 1 (oP 3) (fVar 2)
def b_numbered_E1 : FE :=
  fN semTup (aCons (oV (fDGet 1 (oP 4))) (aCons (oV (fDGet 1 (oP 5))) (aCons (oV (fVar 6)) (aCons (oV (fVar 7)) (aNil)))))
def b_numbered : FS :=
  sSeq (sAsg (gNm 1) (fDic0)) (
  sSeq (sFor (fiA enumOf (aCons (oV (fOp2 semIx (oP 0) (oV (fCon (.int 0))))) (aNil))) (gTp 2 (gsCons (gNm 2) (gsCons (gNm 3) (gsNil)))) (b_numbered_L1)) (
  sRet (fLc 8 [4, 5, 6, 7] (fiSeq (fOp2 semIx (oP 0) (oV (fCon (.int 1))))) (gTp 4 (gsCons (gNm 4) (gsCons (gNm 5) (gsCons (gNm 6) (gsCons (gNm 7) (gsNil)))))) (ftYes) (b_numbered_E1))))
def m_numbered : SemF := runD 8 [] b_numbered
def b_is_load_E1 : FE :=
  fCall 3 [] m_is_number (aCons (oV (fVar 2)) (aCons (oV (fUn semNeg (fCon k_MAX_LOAD))) (aCons (oV (fCon k_MAX_LOAD)) (aNil))))
def b_is_load : FS :=
  sSeq (sIf (fOrT (fNotT (tB1 (fO1 (semIsT .tuple) (oP 1)))) (tB1 (fOp2 semNe (oV (fN semLen (aCons (oP 1) (aNil)))) (oV (fN semLen (aCons (oV (fOp2 semIx (oP 0) (oV (fCon (.int 0))))) (aNil))))))) (sRet (fCon (.bool false))) (sNil)) (
  sRet (fAndV (fGB false 3 [2] (fiSeq (fVar 1)) (gNm 2) (ftYes) (b_is_load_E1)) (fOp2 semEq (oV (fN semSumT (aCons (oP 1) (aNil)))) (oV (fCon (.int 0))))))
def m_is_load : SemF := runD 3 [] b_is_load
def b_gone_L1 : FS :=
  sSeq (sAugS 2 (oP 4) semIAdd (oV (fOp2 semIx (oP 1) (oP 3)))) (
  sAugS 2 (oP 5) semSub (oV (fOp2 semIx (oP 1) (oP 3))))
def b_gone : FS :=
  sSeq (sAsg (gNm 2) (fOp2 semMul (oV (fN semLst (aCons (oV (fCon (.int 0))) (aNil)))) (oV (fN semLen (aCons (oV (fOp2 semIx (oP 0) (oV (fCon (.int 0))))) (aNil)))))) (
  sSeq (sFor (fiA enumOf (aCons (oV (fSh (fCall 1 [] m_numbered (aCons (oV (fVar 0)) (aNil))))) (aNil))) (gTp 2 (gsCons (gNm 3) (gsCons (gTp 4 (gsCons (gNm 4) (gsCons (gNm 5) (gsCons (gNm 6) (gsCons (gNm 7) (gsNil)))))) (gsNil)))) (b_gone_L1)) (
  sRet (fTake 2)))
def m_gone : SemF := runD 8 [] b_gone
def b_is_plan_E1 : FE :=
  fCall 3 [] m_is_number (aCons (oV (fOp2 semIx (oP 2) (oP 4))) (aCons (oV (fCon (.int 0))) (aCons (oV (fOp2 semIx (oV (fOp2 semIx (oP 3) (oP 4))) (oV (fCon (.int 2))))) (aNil))))
def b_is_plan : FS :=
  sSeq (sAsg (gNm 3) (fOp2 semIx (oP 0) (oV (fCon (.int 1))))) (
  sSeq (sIf (fOrT (fNotT (tB1 (fO1 (semIsT .tuple) (oP 2)))) (tB1 (fOp2 semNe (oV (fN semLen (aCons (oP 2) (aNil)))) (oV (fN semLen (aCons (oP 3) (aNil))))))) (sRet (fCon (.bool false))) (sNil)) (
  sSeq (sIf (fNotT (tB1 (fGB false 5 [4] (fiA (onD rng1) (aCons (oV (fN semLen (aCons (oP 3) (aNil)))) (aNil))) (gNm 4) (ftYes) (b_is_plan_E1)))) (sRet (fCon (.bool false))) (sNil)) (
  sRet (fOp2 semEq (oV (fCall 2 [] m_gone (aCons (oV (fVar 0)) (aCons (oV (fVar 2)) (aNil))))) (oV (fN semListOf (aCons (oP 1) (aNil))))))))
def m_is_plan : SemF := runD 5 [] b_is_plan
def b_cost_of_E1 : FE :=
  fOp2 semMul (oV (fOp2 semIx (oP 2) (oV (fCon (.int 3))))) (oP 3)
def b_cost_of : FS :=
  sRet (fGS 4 [2, 3] (fiA zipOf (aCons (oV (fOp2 semIx (oP 0) (oV (fCon (.int 1))))) (aCons (oV (fVar 1)) (aNil)))) (gTp 2 (gsCons (gNm 2) (gsCons (gNm 3) (gsNil)))) (ftYes) (b_cost_of_E1))
def m_cost_of : SemF := runD 4 [] b_cost_of
def b_room_out_T1 : FT :=
  fAndT (tB1 (fOp2 semIn (oP 2) (oP 1))) (tB1 (fOp2 semNotIn (oP 3) (oP 1)))
def b_room_out_E1 : FE :=
  fVar 4
def b_room_out : FS :=
  sRet (fGS 6 [2, 3, 4, 5] (fiSeq (fCall 1 [] m_numbered (aCons (oV (fVar 0)) (aNil)))) (gTp 4 (gsCons (gNm 2) (gsCons (gNm 3) (gsCons (gNm 4) (gsCons (gNm 5) (gsNil)))))) (b_room_out_T1) (b_room_out_E1))
def m_room_out : SemF := runD 6 [] b_room_out
def b__law_draw : FS :=
  sSeq (sIf (tB1 (fOp2 semLt (oV (fOp2 semIx (oP 0) (oV (fCon (.int 1))))) (oP 1))) (sAsg (gIxB 0 0) (fCall 1 [0] m_load (aCons (oP 0) (aNil)))) (sNil)) (
  sSeq (sAsg (gNm 2) (fOp2 semMod (oV (fN semInt1 (aCons (oV (fOp2 semIx (oP 0) (oV (fCon (.int 1))))) (aNil)))) (oP 1))) (
  sSeq (sAsg (gIxB 0 0) (fOp2 semFdiv (oV (fOp2 semIx (oP 0) (oV (fCon (.int 1))))) (oP 1))) (
  sRet (fTake 2))))
def m__law_draw : SemF := runD 3 [0] b__law_draw
def b__law_same_E1 (me : SemF) : FE :=
  fCall 2 [] me (aCons (oV (fOp2 semIx (oP 0) (oP 2))) (aCons (oV (fOp2 semIx (oP 1) (oP 2))) (aNil)))
def b__law_same (me : SemF) : FS :=
  sSeq (sIf (fOrT (fAndT (tB1 (fO1 (semIsT .tuple) (oP 0))) (tB1 (fO1 (semIsT .tuple) (oP 1)))) (fAndT (tB1 (fO1 (semIsT .list) (oP 0))) (tB1 (fO1 (semIsT .list) (oP 1))))) (sRet (fAndV (fOp2 semEq (oV (fN semLen (aCons (oP 0) (aNil)))) (oV (fN semLen (aCons (oP 1) (aNil))))) (fN semAll (aCons (oV (fLc 3 [2] (fiA (onD rng1) (aCons (oV (fN semLen (aCons (oP 0) (aNil)))) (aNil))) (gNm 2) (ftYes) ((b__law_same_E1 me)))) (aNil))))) (sNil)) (
  sSeq (sIf (fOrT (tB1 (fO1 (semIsT .bool) (oP 0))) (tB1 (fO1 (semIsT .bool) (oP 1)))) (sRet (fAndV (fO1 (semIsT .bool) (oP 0)) (fAndV (fO1 (semIsT .bool) (oP 1)) (fOp2 semEq (oP 0) (oP 1))))) (sNil)) (
  sSeq (sIf (fOrT (fAndT (tB1 (fO1 (semIsT .int) (oP 0))) (tB1 (fO1 (semIsT .int) (oP 1)))) (fAndT (tB1 (fO1 (semIsT .str) (oP 0))) (tB1 (fO1 (semIsT .str) (oP 1))))) (sRet (fOp2 semEq (oP 0) (oP 1))) (sNil)) (
  sRet (fAndV (fOp2 semIs (oP 0) (oV (fCon .none))) (fOp2 semIs (oP 1) (oV (fCon .none)))))))
def m__law_same : Nat → SemF
  | 0 => fun _ => stk
  | n + 1 => runD 3 [] (b__law_same (m__law_same n))
def b__law_names_L1 : FS :=
  sAsg (gNm 4) (fOp2 semAdd (oP 4) (oV (fOp2 semIx (oV (fCon (.str "abcxyz0123456789"))) (oV (fCall 2 [0] m__law_draw (aCons (oP 0) (aCons (oV (fCon (.int 16))) (aNil))))))))
def b__law_names_L2 : FS :=
  sSeq (sAsg (gNm 4) (fOp2 semIx (oV (fCon (.str "abcdefghijklmnopqrstuvwxyz"))) (oV (fCall 2 [0] m__law_draw (aCons (oP 0) (aCons (oV (fCon (.int 26))) (aNil))))))) (
  sSeq (sFor (fiA (onD rng1) (aCons (oV (fOp2 semMul (oV (fCall 2 [0] m__law_draw (aCons (oP 0) (aCons (oV (fCon (.int 3))) (aNil))))) (oV (fCall 2 [0] m__law_draw (aCons (oP 0) (aCons (oV (fCon (.int 4))) (aNil))))))) (aNil))) (gNm 5) (b__law_names_L1)) (
  sIf (tB1 (fOp2 semNotIn (oP 4) (oV (fN semTup (aCons (oV (fCon (.str "any"))) (aCons (oV (fCon (.str "all"))) (aCons (oV (fCon (.str "none"))) (aNil)))))))) (sDrop (fMt 2 semAppend (aCons (oV (fVar 4)) (aNil)))) (sNil)))
def b__law_names : FS :=
  sSeq (sAsg (gNm 2) (fN semLst (aNil))) (
  sSeq (sFor (fiA (onD rng1) (aCons (oP 1) (aNil))) (gNm 3) (b__law_names_L2)) (
  sRet (fN semTupOf (aCons (oV (fSortSetD (fVar 2))) (aNil)))))
def m__law_names : SemF := runD 6 [0] b__law_names
def b__law_bent (me : SemF) : FS :=
  sSeq (sIf (fAndT (tB1 (fO1 (semIsT .tuple) (oP 1))) (fAndT (tB1 (fOp2 semGtI (oV (fN semLen (aCons (oP 1) (aNil)))) (oV (fCon (.int 0))))) (tB1 (fOp2 semGtI (oV (fCall 2 [0] m__law_draw (aCons (oP 0) (aCons (oV (fCon (.int 5))) (aNil))))) (oV (fCon (.int 0))))))) (sSeq (sAsg (gNm 2) (fCall 2 [0] m__law_draw (aCons (oP 0) (aCons (oV (fN semLen (aCons (oP 1) (aNil)))) (aNil))))) (
  sRet (fOp2 semAdd (oV (fOp2 semAdd (oV (fSl (oP 1) (fPN) (fPS (fVar 2)))) (oV (fN semTup (aCons (oV (fSh (fCall 2 [0] me (aCons (oP 0) (aCons (oV (fOp2 semIx (oP 1) (oP 2))) (aNil)))))) (aNil)))))) (oV (fSl (oP 1) (fPS (fOp2 semAdd (oP 2) (oV (fCon (.int 1))))) (fPN)))))) (sNil)) (
  sSeq (sAsg (gNm 3) (fCall 2 [0] m__law_draw (aCons (oP 0) (aCons (oV (fCon (.int 8))) (aNil))))) (
  sSeq (sIf (tB1 (fO1 (semIsT .tuple) (oP 1))) (sRet (fOp2 semIx (oV (fN semLst (aCons (oV (fSh (fOp2 semAdd (oP 1) (oV (fSl (oP 1) (fPN) (fPS (fCon (.int 1)))))))) (aCons (oV (fSh (fSl (oP 1) (fPS (fCon (.int 1))) (fPN)))) (aCons (oV (fSh (fRev (oP 1)))) (aCons (oV (fSh (fOp2 semAdd (oP 1) (oV (fN semTup (aCons (oV (fCon (.int 0))) (aNil))))))) (aCons (oV (fSh (fOp2 semAdd (oV (fSl (oP 1) (fPN) (fPS (fCon (.int 1))))) (oP 1)))) (aCons (oV (fSh (fSl (oP 1) (fPN) (fPS (fUn semNeg (fCon (.int 1))))))) (aCons (oV (fCon .none)) (aCons (oV (fSh (fSl (oP 1) (fPN) (fPS (fCon (.int 1)))))) (aNil))))))))))) (oP 3))) (sNil)) (
  sSeq (sIf (fAndT (tB1 (fO1 (semIsT .int) (oP 1))) (fNotT (tB1 (fO1 (semIsT .bool) (oP 1))))) (sRet (fOp2 semIx (oV (fN semLst (aCons (oV (fSh (fOp2 semAdd (oP 1) (oV (fCon (.int 1)))))) (aCons (oV (fSh (fOp2 semSub (oP 1) (oV (fCon (.int 1)))))) (aCons (oV (fUn semNeg (fVar 1))) (aCons (oV (fOp2 semEq (oP 1) (oV (fCon (.int 1))))) (aCons (oV (fCon .none)) (aCons (oV (fSh (fN semStr1 (aCons (oP 1) (aNil))))) (aCons (oV (fN semTup (aCons (oV (fVar 1)) (aNil)))) (aCons (oV (fSh (fOp2 semAdd (oP 1) (oV (fCon (.int 1001)))))) (aNil))))))))))) (oP 3))) (sNil)) (
  sSeq (sIf (tB1 (fO1 (semIsT .str) (oP 1))) (sRet (fOp2 semIx (oV (fN semLst (aCons (oV (fSh (fOp2 semAdd (oP 1) (oV (fCon (.str "a")))))) (aCons (oV (fSh (fSl (oP 1) (fPS (fCon (.int 1))) (fPN)))) (aCons (oV (fCon (.str "any"))) (aCons (oV (fSh (fMv "str" semUpper (oP 1) aNil))) (aCons (oV (fCon (.int 0))) (aCons (oV (fCon (.str ""))) (aCons (oV (fSh (fOp2 semAdd (oP 1) (oV (fCon (.str "z0z0z0z0")))))) (aCons (oV (fN semTup (aCons (oV (fVar 1)) (aNil)))) (aNil))))))))))) (oP 3))) (sNil)) (
  sRet (fOp2 semIx (oV (fN semLst (aCons (oV (fCon (.int 0))) (aCons (oV (fCon (.int 1))) (aCons (oV (fCon .none)) (aCons (oV (fCon (.bool true))) (aCons (oV (fCon (.bool false))) (aCons (oV (fCon (.str "a"))) (aCons (oV (fN semTup (aNil))) (aCons (oV (fUn semNeg (fCon (.int 1)))) (aNil))))))))))) (oP 3)))))))
def m__law_bent : Nat → SemF
  | 0 => fun _ => stk
  | n + 1 => runD 4 [0] (b__law_bent (m__law_bent n))
def b__law_whole : FS :=
  sRet (fAndV (fO1 (semIsT .int) (oP 0)) (fAndV (fNotV (fO1 (semIsT .bool) (oP 0))) (fChain semLeI semLeI (oP 1) (oP 0) (oP 2))))
def m__law_whole : SemF := runD 3 [] b__law_whole
def b__law_is_name_E1 : FE :=
  fOp2 semIn (oP 2) (oV (fOp2 semAdd (oP 1) (oV (fCon (.str "0123456789")))))
def b__law_is_name : FS :=
  sSeq (sIf (fOrT (fNotT (tB1 (fO1 (semIsT .str) (oP 0)))) (fOrT (fNotT (tB1 (fChain semLeI semLeI (oV (fCon (.int 1))) (oV (fN semLen (aCons (oP 0) (aNil)))) (oV (fCon (.int 8)))))) (tB1 (fOp2 semIn (oP 0) (oV (fN semTup (aCons (oV (fCon (.str "all"))) (aCons (oV (fCon (.str "any"))) (aCons (oV (fCon (.str "none"))) (aNil)))))))))) (sRet (fCon (.bool false))) (sNil)) (
  sSeq (sAsg (gNm 1) (fCon (.str "abcdefghijklmnopqrstuvwxyz"))) (
  sRet (fAndV (fOp2 semIn (oV (fOp2 semIx (oP 0) (oV (fCon (.int 0))))) (oP 1)) (fN semAll (aCons (oV (fLc 3 [2] (fiSeq (fVar 0)) (gNm 2) (ftYes) (b__law_is_name_E1))) (aNil))))))
def m__law_is_name : SemF := runD 3 [] b__law_is_name
def b__law_is_van : FS :=
  sSeq (sIf (fOrT (fNotT (tB1 (fO1 (semIsT .tuple) (oP 1)))) (tB1 (fOp2 semNe (oV (fN semLen (aCons (oP 1) (aNil)))) (oV (fCon (.int 4)))))) (sRet (fCon (.bool false))) (sNil)) (
  sSeq (sIf (fOrT (fNotT (tB1 (fO1 (semIsT .str) (oV (fOp2 semIx (oP 1) (oV (fCon (.int 0)))))))) (fOrT (fNotT (tB1 (fO1 (semIsT .str) (oV (fOp2 semIx (oP 1) (oV (fCon (.int 1)))))))) (tB1 (fOp2 semEq (oV (fOp2 semIx (oP 1) (oV (fCon (.int 0))))) (oV (fOp2 semIx (oP 1) (oV (fCon (.int 1))))))))) (sRet (fCon (.bool false))) (sNil)) (
  sSeq (sIf (fOrT (tB1 (fOp2 semNotIn (oV (fOp2 semIx (oP 1) (oV (fCon (.int 0))))) (oP 0))) (tB1 (fOp2 semNotIn (oV (fOp2 semIx (oP 1) (oV (fCon (.int 1))))) (oP 0)))) (sRet (fCon (.bool false))) (sNil)) (
  sRet (fAndV (fCall 3 [] m__law_whole (aCons (oV (fOp2 semIx (oP 1) (oV (fCon (.int 2))))) (aCons (oV (fCon (.int 1))) (aCons (oV (fCon (.int 1000))) (aNil))))) (fCall 3 [] m__law_whole (aCons (oV (fOp2 semIx (oP 1) (oV (fCon (.int 3))))) (aCons (oV (fCon (.int 0))) (aCons (oV (fCon (.int 1000))) (aNil)))))))))
def m__law_is_van : SemF := runD 2 [] b__law_is_van
def b__law_network_due_E1 : FE :=
  fCall 1 [] m__law_is_name (aCons (oV (fVar 3)) (aNil))
def b__law_network_due_E2 : FE :=
  fOp2 semLt (oV (fOp2 semIx (oP 1) (oP 4))) (oV (fOp2 semIx (oP 1) (oV (fOp2 semAdd (oP 4) (oV (fCon (.int 1)))))))
def b__law_network_due_E3 : FE :=
  fCall 2 [] m__law_is_van (aCons (oV (fVar 1)) (aCons (oV (fVar 5)) (aNil)))
def b__law_network_due_E4 : FE :=
  fOp2 semLt (oV (fOp2 semIx (oP 2) (oP 4))) (oV (fOp2 semIx (oP 2) (oV (fOp2 semAdd (oP 4) (oV (fCon (.int 1)))))))
def b__law_network_due : FS :=
  sSeq (sIf (fOrT (fNotT (tB1 (fO1 (semIsT .tuple) (oP 0)))) (fOrT (tB1 (fOp2 semNe (oV (fN semLen (aCons (oP 0) (aNil)))) (oV (fCon (.int 2))))) (fOrT (fNotT (tB1 (fO1 (semIsT .tuple) (oV (fOp2 semIx (oP 0) (oV (fCon (.int 0)))))))) (fNotT (tB1 (fO1 (semIsT .tuple) (oV (fOp2 semIx (oP 0) (oV (fCon (.int 1))))))))))) (sRet (fCon (.bool false))) (sNil)) (
  sSeq (sAsg (gTp 2 (gsCons (gNm 1) (gsCons (gNm 2) (gsNil)))) (fVar 0)) (
  sSeq (sIf (fOrT (tB1 (fOp2 semGtI (oV (fN semLen (aCons (oP 1) (aNil)))) (oV (fCon (.int 40))))) (fOrT (tB1 (fOp2 semGtI (oV (fN semLen (aCons (oP 2) (aNil)))) (oV (fCon (.int 200))))) (fNotT (tB1 (fN semAll (aCons (oV (fLc 6 [3] (fiSeq (fVar 1)) (gNm 3) (ftYes) (b__law_network_due_E1))) (aNil))))))) (sRet (fCon (.bool false))) (sNil)) (
  sSeq (sIf (fNotT (tB1 (fN semAll (aCons (oV (fLc 6 [4] (fiA (onD rng1) (aCons (oV (fOp2 semSub (oV (fN semLen (aCons (oP 1) (aNil)))) (oV (fCon (.int 1))))) (aNil))) (gNm 4) (ftYes) (b__law_network_due_E2))) (aNil))))) (sRet (fCon (.bool false))) (sNil)) (
  sSeq (sIf (fNotT (tB1 (fN semAll (aCons (oV (fLc 6 [5] (fiSeq (fVar 2)) (gNm 5) (ftYes) (b__law_network_due_E3))) (aNil))))) (sRet (fCon (.bool false))) (sNil)) (
  sRet (fN semAll (aCons (oV (fLc 6 [4] (fiA (onD rng1) (aCons (oV (fOp2 semSub (oV (fN semLen (aCons (oP 2) (aNil)))) (oV (fCon (.int 1))))) (aNil))) (gNm 4) (ftYes) (b__law_network_due_E4))) (aNil))))))))
def m__law_network_due : SemF := runD 6 [] b__law_network_due
def b__law_gone_L1 : FS :=
  sSeq (sAsg (gIxs 4 (oV (fMvT semIndexT (oP 2) (aCons (oV (fOp2 semIx (oV (fOp2 semIx (oP 3) (oP 5))) (oV (fCon (.int 0))))) (aNil))))) (fOp2 semAdd (oV (fOp2 semIx (oP 4) (oV (fMvT semIndexT (oP 2) (aCons (oV (fOp2 semIx (oV (fOp2 semIx (oP 3) (oP 5))) (oV (fCon (.int 0))))) (aNil)))))) (oV (fOp2 semIx (oP 1) (oP 5))))) (
  sAsg (gIxs 4 (oV (fMvT semIndexT (oP 2) (aCons (oV (fOp2 semIx (oV (fOp2 semIx (oP 3) (oP 5))) (oV (fCon (.int 1))))) (aNil))))) (fOp2 semSub (oV (fOp2 semIx (oP 4) (oV (fMvT semIndexT (oP 2) (aCons (oV (fOp2 semIx (oV (fOp2 semIx (oP 3) (oP 5))) (oV (fCon (.int 1))))) (aNil)))))) (oV (fOp2 semIx (oP 1) (oP 5)))))
def b__law_gone : FS :=
  sSeq (sAsg (gTp 2 (gsCons (gNm 2) (gsCons (gNm 3) (gsNil)))) (fVar 0)) (
  sSeq (sAsg (gNm 4) (fOp2 semMul (oV (fN semLst (aCons (oV (fCon (.int 0))) (aNil)))) (oV (fN semLen (aCons (oP 2) (aNil)))))) (
  sSeq (sFor (fiA (onD rng1) (aCons (oV (fN semLen (aCons (oP 3) (aNil)))) (aNil))) (gNm 5) (b__law_gone_L1)) (
  sRet (fN semTupOf (aCons (oP 4) (aNil))))))
def m__law_gone : SemF := runD 6 [] b__law_gone
def b__law_load_due_E1 : FE :=
  fCall 3 [] m__law_whole (aCons (oV (fVar 2)) (aCons (oV (fUn semNeg (fCon (.int 200000)))) (aCons (oV (fCon (.int 200000))) (aNil))))
def b__law_load_due : FS :=
  sSeq (sIf (fOrT (fNotT (tB1 (fO1 (semIsT .tuple) (oP 1)))) (tB1 (fOp2 semNe (oV (fN semLen (aCons (oP 1) (aNil)))) (oV (fN semLen (aCons (oV (fOp2 semIx (oP 0) (oV (fCon (.int 0))))) (aNil))))))) (sRet (fCon (.bool false))) (sNil)) (
  sRet (fAndV (fN semAll (aCons (oV (fLc 3 [2] (fiSeq (fVar 1)) (gNm 2) (ftYes) (b__law_load_due_E1))) (aNil))) (fOp2 semEq (oV (fN semSumT (aCons (oP 1) (aNil)))) (oV (fCon (.int 0))))))
def m__law_load_due : SemF := runD 3 [] b__law_load_due
def b__law_plan_due_E1 : FE :=
  fCall 3 [] m__law_whole (aCons (oV (fOp2 semIx (oP 2) (oP 4))) (aCons (oV (fCon (.int 0))) (aCons (oV (fOp2 semIx (oV (fOp2 semIx (oP 3) (oP 4))) (oV (fCon (.int 2))))) (aNil))))
def b__law_plan_due : FS :=
  sSeq (sAsg (gNm 3) (fOp2 semIx (oP 0) (oV (fCon (.int 1))))) (
  sSeq (sIf (fOrT (fNotT (tB1 (fO1 (semIsT .tuple) (oP 2)))) (tB1 (fOp2 semNe (oV (fN semLen (aCons (oP 2) (aNil)))) (oV (fN semLen (aCons (oP 3) (aNil))))))) (sRet (fCon (.bool false))) (sNil)) (
  sSeq (sIf (fNotT (tB1 (fN semAll (aCons (oV (fLc 5 [4] (fiA (onD rng1) (aCons (oV (fN semLen (aCons (oP 3) (aNil)))) (aNil))) (gNm 4) (ftYes) (b__law_plan_due_E1))) (aNil))))) (sRet (fCon (.bool false))) (sNil)) (
  sRet (fOp2 semEq (oV (fCall 2 [] m__law_gone (aCons (oV (fVar 0)) (aCons (oV (fVar 2)) (aNil))))) (oP 1)))))
def m__law_plan_due : SemF := runD 5 [] b__law_plan_due
def b__law_network_L1 : FS :=
  sIf (tB1 (fOp2 semGtI (oV (fN semLen (aCons (oP 3) (aNil)))) (oV (fCon (.int 1))))) (sSeq (sAsg (gNm 6) (fCall 2 [0] m__law_draw (aCons (oP 0) (aCons (oV (fN semLen (aCons (oP 3) (aNil)))) (aNil))))) (
  sSeq (sAsg (gNm 7) (fOp2 semMod (oV (fN semInt1 (aCons (oV (fOp2 semAdd (oV (fOp2 semAdd (oP 6) (oV (fCon (.int 1))))) (oV (fCall 2 [0] m__law_draw (aCons (oP 0) (aCons (oV (fOp2 semSub (oV (fN semLen (aCons (oP 3) (aNil)))) (oV (fCon (.int 1))))) (aNil))))))) (aNil)))) (oV (fN semLen (aCons (oP 3) (aNil)))))) (
  sSeq (sAsg (gNm 8) (fOp2 semIx (oV (fN semLst (aCons (oV (fSh (fOp2 semAdd (oV (fCon (.int 1))) (oV (fCall 2 [0] m__law_draw (aCons (oP 0) (aCons (oV (fCon (.int 4))) (aNil)))))))) (aCons (oV (fSh (fOp2 semAdd (oV (fCon (.int 1))) (oV (fCall 2 [0] m__law_draw (aCons (oP 0) (aCons (oV (fCon (.int 1000))) (aNil)))))))) (aCons (oV (fCon (.int 1000))) (aCons (oV (fCon (.int 1))) (aNil))))))) (oV (fCall 2 [0] m__law_draw (aCons (oP 0) (aCons (oV (fCon (.int 4))) (aNil))))))) (
  sSeq (sAsg (gNm 9) (fOp2 semIx (oV (fN semLst (aCons (oV (fSh (fCall 2 [0] m__law_draw (aCons (oP 0) (aCons (oV (fCon (.int 5))) (aNil)))))) (aCons (oV (fSh (fCall 2 [0] m__law_draw (aCons (oP 0) (aCons (oV (fCon (.int 1001))) (aNil)))))) (aCons (oV (fCon (.int 1000))) (aCons (oV (fCon (.int 0))) (aNil))))))) (oV (fCall 2 [0] m__law_draw (aCons (oP 0) (aCons (oV (fCon (.int 4))) (aNil))))))) (
  sDrop (fMt 4 semAppend (aCons (oV (fN semTup (aCons (oV (fOp2 semIx (oP 3) (oP 6))) (aCons (oV (fOp2 semIx (oP 3) (oP 7))) (aCons (oV (fVar 8)) (aCons (oV (fVar 9)) (aNil))))))) (aNil)))))))) (sNil)
def b__law_network : FS :=
  sSeq (sAsg (gNm 3) (fCall 2 [0] m__law_names (aCons (oP 0) (aCons (oV (fVar 1)) (aNil))))) (
  sSeq (sAsg (gNm 4) (fN semLst (aNil))) (
  sSeq (sFor (fiA (onD rng1) (aCons (oP 2) (aNil))) (gNm 5) (b__law_network_L1)) (
  sRet (fN semTup (aCons (oV (fVar 3)) (aCons (oV (fSh (fN semTupOf (aCons (oV (fSortSetD (fVar 4))) (aNil))))) (aNil)))))))
def m__law_network : SemF := runD 10 [0] b__law_network
def b__law_near_fine_L1 : FS :=
  sIf (fNotT (tB1 (fCall 2 [] (m__law_same 8) (aCons (oV (fCall 1 [] m_is_network (aCons (oV (fN semTup (aCons (oV (fVar 2)) (aCons (oV (fSh (fN semTupOf (aCons (oV (fSortSetD (fOp2 semAdd (oP 8) (oV (fN semTup (aCons (oV (fN semTup (aCons (oV (fVar 4)) (aCons (oV (fVar 5)) (aCons (oV (fVar 9)) (aCons (oV (fVar 7)) (aNil))))))) (aCons (oV (fN semTup (aCons (oV (fVar 4)) (aCons (oV (fVar 5)) (aCons (oV (fVar 6)) (aCons (oV (fSh (fOp2 semSub (oP 9) (oV (fCon (.int 1)))))) (aNil))))))) (aNil)))))))) (aNil))))) (aNil))))) (aNil)))) (aCons (oV (fCon (.bool true))) (aNil)))))) (sRet (fCon (.bool false))) (sNil)
def b__law_near_fine_L2 : FS :=
  sIf (fNotT (tB1 (fCall 2 [] (m__law_same 8) (aCons (oV (fCall 1 [] m_is_network (aCons (oV (fN semTup (aCons (oV (fVar 2)) (aCons (oV (fSh (fN semTupOf (aCons (oV (fN semSorted (aCons (oV (fOp2 semAdd (oP 8) (oV (fN semTup (aCons (oV (fVar 10)) (aNil)))))) (aNil)))) (aNil))))) (aNil))))) (aNil)))) (aCons (oV (fCon (.bool false))) (aNil)))))) (sRet (fCon (.bool false))) (sNil)
def b__law_near_fine_L3 : FS :=
  sIf (fNotT (tB1 (fCall 2 [] (m__law_same 8) (aCons (oV (fCall 1 [] m_is_network (aCons (oV (fN semTup (aCons (oV (fVar 2)) (aCons (oV (fSh (fOp2 semAdd (oV (fOp2 semAdd (oV (fSl (oP 3) (fPN) (fPS (fVar 1)))) (oV (fN semTup (aCons (oV (fVar 10)) (aNil)))))) (oV (fSl (oP 3) (fPS (fOp2 semAdd (oP 1) (oV (fCon (.int 1))))) (fPN)))))) (aNil))))) (aNil)))) (aCons (oV (fCon (.bool false))) (aNil)))))) (sRet (fCon (.bool false))) (sNil)
def b__law_near_fine : FS :=
  sSeq (sAsg (gTp 2 (gsCons (gNm 2) (gsCons (gNm 3) (gsNil)))) (fVar 0)) (
  sSeq (sAsg (gTp 4 (gsCons (gNm 4) (gsCons (gNm 5) (gsCons (gNm 6) (gsCons (gNm 7) (gsNil)))))) (fOp2 semIx (oP 3) (oP 1))) (
  sSeq (sAsg (gNm 8) (fOp2 semAdd (oV (fSl (oP 3) (fPN) (fPS (fVar 1)))) (oV (fSl (oP 3) (fPS (fOp2 semAdd (oP 1) (oV (fCon (.int 1))))) (fPN))))) (
  sSeq (sFor (fiSeq (fN semTup (aCons (oV (fCon (.int 1))) (aCons (oV (fCon (.int 2))) (aCons (oV (fCon (.int 1000))) (aNil)))))) (gNm 9) (b__law_near_fine_L1)) (
  sSeq (sFor (fiSeq (fN semTup (aCons (oV (fN semTup (aCons (oV (fVar 4)) (aCons (oV (fVar 5)) (aCons (oV (fCon (.int 0))) (aCons (oV (fVar 7)) (aNil))))))) (aCons (oV (fN semTup (aCons (oV (fVar 4)) (aCons (oV (fVar 5)) (aCons (oV (fCon (.int 1001))) (aCons (oV (fVar 7)) (aNil))))))) (aCons (oV (fN semTup (aCons (oV (fVar 4)) (aCons (oV (fVar 5)) (aCons (oV (fVar 6)) (aCons (oV (fUn semNeg (fCon (.int 1)))) (aNil))))))) (aCons (oV (fN semTup (aCons (oV (fVar 4)) (aCons (oV (fVar 5)) (aCons (oV (fVar 6)) (aCons (oV (fCon (.int 1001))) (aNil))))))) (aCons (oV (fN semTup (aCons (oV (fVar 4)) (aCons (oV (fVar 4)) (aCons (oV (fVar 6)) (aCons (oV (fVar 7)) (aNil))))))) (aCons (oV (fN semTup (aCons (oV (fVar 4)) (aCons (oV (fCon (.str "aaaaaaaa"))) (aCons (oV (fCon (.int 1))) (aCons (oV (fCon (.int 1))) (aNil))))))) (aNil))))))))) (gNm 10) (b__law_near_fine_L2)) (
  sSeq (sFor (fiSeq (fN semTup (aCons (oV (fN semTup (aCons (oV (fVar 4)) (aCons (oV (fVar 5)) (aCons (oV (fCon (.bool true))) (aCons (oV (fVar 7)) (aNil))))))) (aCons (oV (fN semTup (aCons (oV (fVar 4)) (aCons (oV (fVar 5)) (aCons (oV (fVar 6)) (aCons (oV (fCon (.bool false))) (aNil))))))) (aCons (oV (fN semTup (aCons (oV (fVar 4)) (aCons (oV (fVar 5)) (aCons (oV (fVar 6)) (aNil)))))) (aCons (oV (fN semTup (aCons (oV (fVar 4)) (aCons (oV (fVar 5)) (aCons (oV (fVar 6)) (aCons (oV (fVar 7)) (aCons (oV (fCon (.int 0))) (aNil)))))))) (aCons (oV (fN semTup (aCons (oV (fVar 4)) (aCons (oV (fCon (.int 0))) (aCons (oV (fVar 6)) (aCons (oV (fVar 7)) (aNil))))))) (aCons (oV (fCon .none)) (aCons (oV (fCon (.str "van"))) (aNil)))))))))) (gNm 10) (b__law_near_fine_L3)) (
  sRet (fCon (.bool true))))))))
def m__law_near_fine : SemF := runD 11 [] b__law_near_fine
def b__law_great_fine_E1 : FE :=
  fOp2 semAdd (oV (fCon (.str "a"))) (oV (fN semStr1 (aCons (oV (fOp2 semAdd (oP 1) (oV (fCon (.int 10))))) (aNil))))
def b__law_great_fine_E2 : FE :=
  fN semTup (aCons (oV (fOp2 semIx (oP 0) (oV (fOp2 semFdiv (oP 1) (oV (fCon (.int 10))))))) (aCons (oV (fOp2 semIx (oP 0) (oV (fOp2 semSub (oV (fOp2 semAdd (oV (fCon (.int 30))) (oP 1))) (oV (fOp2 semMul (oV (fOp2 semFdiv (oP 1) (oV (fCon (.int 10))))) (oV (fCon (.int 10))))))))) (aCons (oV (fCon (.int 1000))) (aCons (oV (fCon (.int 1000))) (aNil)))))
def b__law_great_fine_E3 : FE :=
  fIf (tB1 (fOp2 semLt (oP 1) (oV (fCon (.int 20))))) (fCon (.int 10000)) (fCon (.int 0))
def b__law_great_fine : FS :=
  sSeq (sAsg (gNm 0) (fN semTupOf (aCons (oV (fLc 7 [1] (fiA (onD rng1) (aCons (oV (fCon (.int 41))) (aNil))) (gNm 1) (ftYes) (b__law_great_fine_E1))) (aNil)))) (
  sSeq (sAsg (gNm 2) (fN semTupOf (aCons (oV (fLc 7 [1] (fiA (onD rng1) (aCons (oV (fCon (.int 200))) (aNil))) (gNm 1) (ftYes) (b__law_great_fine_E2))) (aNil)))) (
  sSeq (sAsg (gNm 3) (fSl (oP 0) (fPN) (fPS (fCon (.int 40))))) (
  sSeq (sIf (fOrT (tB1 (fOp2 semIsNot (oV (fCall 1 [] m_is_network (aCons (oV (fN semTup (aCons (oV (fVar 3)) (aCons (oV (fVar 2)) (aNil))))) (aNil)))) (oV (fCon (.bool true))))) (tB1 (fOp2 semIsNot (oV (fCall 1 [] m_is_network (aCons (oV (fN semTup (aCons (oV (fVar 0)) (aCons (oV (fVar 2)) (aNil))))) (aNil)))) (oV (fCon (.bool false)))))) (sRet (fCon (.bool false))) (sNil)) (
  sSeq (sAsg (gNm 4) (fOp2 semAdd (oP 2) (oV (fN semTup (aCons (oV (fN semTup (aCons (oV (fOp2 semIx (oP 0) (oV (fCon (.int 38))))) (aCons (oV (fOp2 semIx (oP 0) (oV (fCon (.int 39))))) (aCons (oV (fCon (.int 1))) (aCons (oV (fCon (.int 0))) (aNil))))))) (aNil)))))) (
  sSeq (sIf (fOrT (tB1 (fOp2 semIsNot (oV (fCall 1 [] m_is_network (aCons (oV (fN semTup (aCons (oV (fVar 3)) (aCons (oV (fSh (fN semTupOf (aCons (oV (fN semSorted (aCons (oP 4) (aNil)))) (aNil))))) (aNil))))) (aNil)))) (oV (fCon (.bool false))))) (tB1 (fOp2 semIsNot (oV (fCall 1 [] m_is_network (aCons (oV (fN semTup (aCons (oV (fVar 3)) (aCons (oV (fSh (fSl (oP 4) (fPS (fCon (.int 1))) (fPN)))) (aNil))))) (aNil)))) (oV (fCon (.bool true)))))) (sRet (fCon (.bool false))) (sNil)) (
  sSeq (sAsg (gNm 5) (fN semTupOf (aCons (oV (fOp2 semAdd (oV (fLc 7 [1] (fiA (onD rng1) (aCons (oV (fCon (.int 30))) (aNil))) (gNm 1) (ftYes) (b__law_great_fine_E3))) (oV (fOp2 semMul (oV (fN semLst (aCons (oV (fUn semNeg (fCon (.int 20000)))) (aNil)))) (oV (fCon (.int 10))))))) (aNil)))) (
  sSeq (sAsg (gNm 6) (fN semTupOf (aCons (oV (fOp2 semMul (oV (fN semLst (aCons (oV (fCon (.int 1000))) (aNil)))) (oV (fCon (.int 200))))) (aNil)))) (
  sSeq (sIf (fOrT (tB1 (fOp2 semIsNot (oV (fCall 2 [] m_is_load (aCons (oV (fN semTup (aCons (oV (fVar 3)) (aCons (oV (fVar 2)) (aNil))))) (aCons (oV (fVar 5)) (aNil))))) (oV (fCon (.bool true))))) (tB1 (fOp2 semIsNot (oV (fCall 3 [] m_is_plan (aCons (oV (fN semTup (aCons (oV (fVar 3)) (aCons (oV (fVar 2)) (aNil))))) (aCons (oV (fVar 5)) (aCons (oV (fVar 6)) (aNil)))))) (oV (fCon (.bool true)))))) (sRet (fCon (.bool false))) (sNil)) (
  sSeq (sIf (fOrT (tB1 (fOp2 semIsNot (oV (fCall 2 [] m_is_load (aCons (oV (fN semTup (aCons (oV (fN semTup (aCons (oV (fCon (.str "a"))) (aCons (oV (fCon (.str "b"))) (aNil))))) (aCons (oV (fN semTup (aNil))) (aNil))))) (aCons (oV (fN semTup (aCons (oV (fCon (.int 200000))) (aCons (oV (fUn semNeg (fCon (.int 200000)))) (aNil))))) (aNil))))) (oV (fCon (.bool true))))) (tB1 (fOp2 semIsNot (oV (fCall 2 [] m_is_load (aCons (oV (fN semTup (aCons (oV (fN semTup (aCons (oV (fCon (.str "a"))) (aCons (oV (fCon (.str "b"))) (aNil))))) (aCons (oV (fN semTup (aNil))) (aNil))))) (aCons (oV (fN semTup (aCons (oV (fCon (.int 200001))) (aCons (oV (fUn semNeg (fCon (.int 200001)))) (aNil))))) (aNil))))) (oV (fCon (.bool false)))))) (sRet (fCon (.bool false))) (sNil)) (
  sRet (fAndV (fOp2 semEq (oV (fCall 2 [] m_cost_of (aCons (oV (fN semTup (aCons (oV (fVar 3)) (aCons (oV (fVar 2)) (aNil))))) (aCons (oV (fVar 6)) (aNil))))) (oV (fCon (.int 200000000)))) (fOp2 semEq (oV (fCall 2 [] m_room_out (aCons (oV (fN semTup (aCons (oV (fVar 3)) (aCons (oV (fVar 2)) (aNil))))) (aCons (oV (fRg1 true (fCon (.int 20)))) (aNil))))) (oV (fCon (.int 200000)))))))))))))))
def m__law_great_fine : SemF := runD 7 [] b__law_great_fine
def b_law_L1 : FS :=
  sSeq (sAsg (gNm 6) (fCall 2 [0] (m__law_bent 8) (aCons (oP 1) (aCons (oV (fVar 2)) (aNil))))) (
  sIf (fNotT (tB1 (fCall 2 [] (m__law_same 8) (aCons (oV (fCall 1 [] m_is_network (aCons (oV (fVar 6)) (aNil)))) (aCons (oV (fCall 1 [] m__law_network_due (aCons (oV (fVar 6)) (aNil)))) (aNil)))))) (sRet (fCon (.bool false))) (sNil))
def b_law_E1 : FE :=
  fCall 2 [0] m__law_draw (aCons (oP 1) (aCons (oV (fOp2 semAdd (oV (fOp2 semIx (oP 8) (oV (fCon (.int 2))))) (oV (fCon (.int 1))))) (aNil)))
def b_law_L2 : FS :=
  sSeq (sPar 6 10 (aCons (oV (fCall 2 [0] (m__law_bent 8) (aCons (oP 1) (aCons (oV (fVar 9)) (aNil))))) (aCons (oV (fCall 2 [0] (m__law_bent 8) (aCons (oP 1) (aCons (oV (fVar 7)) (aNil))))) (aNil)))) (
  sSeq (sIf (fNotT (tB1 (fCall 2 [] (m__law_same 8) (aCons (oV (fCall 2 [] m_is_load (aCons (oV (fVar 2)) (aCons (oV (fVar 6)) (aNil))))) (aCons (oV (fCall 2 [] m__law_load_due (aCons (oV (fVar 2)) (aCons (oV (fVar 6)) (aNil))))) (aNil)))))) (sRet (fCon (.bool false))) (sNil)) (
  sIf (fNotT (tB1 (fCall 2 [] (m__law_same 8) (aCons (oV (fCall 3 [] m_is_plan (aCons (oV (fVar 2)) (aCons (oV (fVar 9)) (aCons (oV (fVar 10)) (aNil)))))) (aCons (oV (fCall 3 [] m__law_plan_due (aCons (oV (fVar 2)) (aCons (oV (fVar 9)) (aCons (oV (fVar 10)) (aNil)))))) (aNil)))))) (sRet (fCon (.bool false))) (sNil)))
def b_law_E2 : FE :=
  fCall 2 [0] m__law_draw (aCons (oP 1) (aCons (oV (fOp2 semAdd (oV (fOp2 semIx (oP 8) (oV (fCon (.int 2))))) (oV (fCon (.int 1))))) (aNil)))
def b_law_E3 : FE :=
  fOp2 semMul (oV (fOp2 semIx (oV (fOp2 semIx (oP 4) (oP 12))) (oV (fCon (.int 3))))) (oV (fOp2 semIx (oP 7) (oP 12)))
def b_law_T4 : FT :=
  tB1 (fOp2 semEq (oV (fCall 2 [0] m__law_draw (aCons (oP 1) (aCons (oV (fCon (.int 2))) (aNil))))) (oV (fCon (.int 0))))
def b_law_E4 : FE :=
  fVar 12
def b_law_T5 : FT :=
  fAndT (tB1 (fOp2 semIn (oV (fMvT semIndexT (oP 3) (aCons (oV (fOp2 semIx (oP 8) (oV (fCon (.int 0))))) (aNil)))) (oP 13))) (tB1 (fOp2 semNotIn (oV (fMvT semIndexT (oP 3) (aCons (oV (fOp2 semIx (oP 8) (oV (fCon (.int 1))))) (aNil)))) (oP 13)))
def b_law_E5 : FE :=
  fOp2 semIx (oP 8) (oV (fCon (.int 2)))
def b_law : FS :=
  sSeq (sAsg (gNm 2) (fCall 3 [0] m__law_network (aCons (oP 1) (aCons (oV (fOp2 semAdd (oV (fCon (.int 2))) (oV (fCall 2 [0] m__law_draw (aCons (oP 1) (aCons (oV (fCon (.int 6))) (aNil))))))) (aCons (oV (fCall 2 [0] m__law_draw (aCons (oP 1) (aCons (oV (fCon (.int 13))) (aNil))))) (aNil)))))) (
  sSeq (sAsg (gTp 2 (gsCons (gNm 3) (gsCons (gNm 4) (gsNil)))) (fVar 2)) (
  sSeq (sIf (fOrT (tB1 (fOp2 semNe (oV (fN semTup (aCons (oV (fCon k_MAX_ROOM)) (aCons (oV (fCon k_MAX_COST)) (aCons (oV (fCon k_MAX_OFFICES)) (aCons (oV (fCon k_MAX_VANS)) (aCons (oV (fCon k_MAX_LOAD)) (aNil)))))))) (oV (fN semTup (aCons (oV (fCon (.int 1000))) (aCons (oV (fCon (.int 1000))) (aCons (oV (fCon (.int 40))) (aCons (oV (fCon (.int 200))) (aCons (oV (fCon (.int 200000))) (aNil)))))))))) (fNotT (tB1 (fCall 0 [] m__law_great_fine aNil)))) (sRet (fCon (.bool false))) (sNil)) (
  sSeq (sIf (fOrT (fNotT (tB1 (fCall 2 [] (m__law_same 8) (aCons (oV (fCall 1 [] m_is_network (aCons (oV (fVar 2)) (aNil)))) (aCons (oV (fCon (.bool true))) (aNil)))))) (fNotT (tB1 (fCall 2 [] (m__law_same 8) (aCons (oV (fCall 1 [] m_is_network (aCons (oV (fN semTup (aCons (oV (fN semTup (aNil))) (aCons (oV (fN semTup (aNil))) (aNil))))) (aNil)))) (aCons (oV (fCon (.bool true))) (aNil))))))) (sRet (fCon (.bool false))) (sNil)) (
  sSeq (sIf (fAndT (tB1 (fOp2 semNe (oP 4) (oV (fN semTup (aNil))))) (fNotT (tB1 (fCall 2 [] m__law_near_fine (aCons (oV (fVar 2)) (aCons (oV (fCall 2 [0] m__law_draw (aCons (oP 1) (aCons (oV (fN semLen (aCons (oP 4) (aNil)))) (aNil))))) (aNil))))))) (sRet (fCon (.bool false))) (sNil)) (
  sSeq (sFor (fiA (onD rng1) (aCons (oV (fCon (.int 14))) (aNil))) (gNm 5) (b_law_L1)) (
  sSeq (sAsg (gNm 7) (fN semTupOf (aCons (oV (fLc 15 [8] (fiSeq (fVar 4)) (gNm 8) (ftYes) (b_law_E1))) (aNil)))) (
  sSeq (sAsg (gNm 9) (fCall 2 [] m__law_gone (aCons (oV (fVar 2)) (aCons (oV (fVar 7)) (aNil))))) (
  sSeq (sIf (fOrT (fNotT (tB1 (fCall 2 [] (m__law_same 8) (aCons (oV (fCall 2 [] m_is_load (aCons (oV (fVar 2)) (aCons (oV (fVar 9)) (aNil))))) (aCons (oV (fCon (.bool true))) (aNil)))))) (fNotT (tB1 (fCall 2 [] (m__law_same 8) (aCons (oV (fCall 3 [] m_is_plan (aCons (oV (fVar 2)) (aCons (oV (fVar 9)) (aCons (oV (fVar 7)) (aNil)))))) (aCons (oV (fCon (.bool true))) (aNil))))))) (sRet (fCon (.bool false))) (sNil)) (
  sSeq (sFor (fiA (onD rng1) (aCons (oV (fCon (.int 10))) (aNil))) (gNm 5) (b_law_L2)) (
  sSeq (sAsg (gNm 11) (fN semTupOf (aCons (oV (fLc 15 [8] (fiSeq (fVar 4)) (gNm 8) (ftYes) (b_law_E2))) (aNil)))) (
  sSeq (sIf (fNotT (tB1 (fCall 2 [] (m__law_same 8) (aCons (oV (fCall 3 [] m_is_plan (aCons (oV (fVar 2)) (aCons (oV (fVar 9)) (aCons (oV (fVar 11)) (aNil)))))) (aCons (oV (fOp2 semEq (oV (fCall 2 [] m__law_gone (aCons (oV (fVar 2)) (aCons (oV (fVar 11)) (aNil))))) (oP 9))) (aNil)))))) (sRet (fCon (.bool false))) (sNil)) (
  sSeq (sIf (fNotT (tB1 (fCall 2 [] (m__law_same 8) (aCons (oV (fCall 2 [] m_cost_of (aCons (oV (fVar 2)) (aCons (oV (fVar 7)) (aNil))))) (aCons (oV (fN semSumT (aCons (oV (fLc 15 [12] (fiA (onD rng1) (aCons (oV (fN semLen (aCons (oP 4) (aNil)))) (aNil))) (gNm 12) (ftYes) (b_law_E3))) (aNil)))) (aNil)))))) (sRet (fCon (.bool false))) (sNil)) (
  sSeq (sAsg (gNm 13) (fN semTupOf (aCons (oV (fLc 15 [12] (fiA (onD rng1) (aCons (oV (fN semLen (aCons (oP 3) (aNil)))) (aNil))) (gNm 12) (b_law_T4) (b_law_E4))) (aNil)))) (
  sSeq (sAsg (gNm 14) (fN semSumT (aCons (oV (fLc 15 [8] (fiSeq (fVar 4)) (gNm 8) (b_law_T5) (b_law_E5))) (aNil)))) (
  sRet (fCall 2 [] (m__law_same 8) (aCons (oV (fCall 2 [] m_room_out (aCons (oV (fVar 2)) (aCons (oV (fVar 13)) (aNil))))) (aCons (oV (fVar 14)) (aNil)))))))))))))))))))
end C53
set_option maxRecDepth 100000
set_option maxHeartbeats 4000000
namespace Yk53
open PySem PySem.Spec PyProof.Rows L2 O C53
abbrev topS (i : Nat) : Stmt := PySem.Challenge.pw_backtohand_k53_networks_and_plans.main.body.getD i (.Pass ⟨0, 0, 0, 0⟩)
structure Lw (K : PySem.W.Frag) (mg : Str → Option Value) (c : Gh) : Prop where
  hK : c.K = K
  z_all : mg "all" = none
  z_bool : mg "bool" = none
  z_enumerate : mg "enumerate" = none
  z_int : mg "int" = none
  z_isinstance : mg "isinstance" = none
  z_len : mg "len" = none
  z_list : mg "list" = none
  z_range : mg "range" = none
  z_set : mg "set" = none
  z_sorted : mg "sorted" = none
  z_str : mg "str" = none
  z_sum : mg "sum" = none
  z_tuple : mg "tuple" = none
  z_zip : mg "zip" = none
  g_DIGITS : ∃ v u, mg "DIGITS" = some u ∧ RelV v u ∧ ∀ G, Dq c.K G v k_DIGITS
  g_MAX_COST : ∃ v u, mg "MAX_COST" = some u ∧ RelV v u ∧ ∀ G, Dq c.K G v k_MAX_COST
  g_MAX_LOAD : ∃ v u, mg "MAX_LOAD" = some u ∧ RelV v u ∧ ∀ G, Dq c.K G v k_MAX_LOAD
  g_MAX_OFFICES : ∃ v u, mg "MAX_OFFICES" = some u ∧ RelV v u ∧ ∀ G, Dq c.K G v k_MAX_OFFICES
  g_MAX_ROOM : ∃ v u, mg "MAX_ROOM" = some u ∧ RelV v u ∧ ∀ G, Dq c.K G v k_MAX_ROOM
  g_MAX_VANS : ∃ v u, mg "MAX_VANS" = some u ∧ RelV v u ∧ ∀ G, Dq c.K G v k_MAX_VANS
  g_RESERVED : ∃ v u, mg "RESERVED" = some u ∧ RelV v u ∧ ∀ G, Dq c.K G v k_RESERVED
  g_SMALL : ∃ v u, mg "SMALL" = some u ∧ RelV v u ∧ ∀ G, Dq c.K G v k_SMALL
variable {P : Program} {w : World} {K : PySem.W.Frag} {mg : Str → Option Value} {base : Heap} {c : Gh}
/-! is_name -/
abbrev s_is_name : Stmt := topS 4
theorem sc_is_name : FnScope ["value", "sign"] ["value"] (C8.fnScope s_is_name) := ⟨rfl, rfl, rfl, by decide +kernel, rfl, by decide +kernel, by decide +kernel⟩
theorem cal_is_name (L : Lw K mg c) {a cd : Addr} {fd : FuncData} (F : DefC K mg "is_name" s_is_name a fd cd) {T : Addr} (TB : GxR.TabB base mg cd T) (hT : T ∈ c.T) (b : Binds K fd ["value"] [])  : C8.Cal P w K mg base 2 "is_name" (spD c 1 [] m_is_name) [] := by
  have hK := L.hK
  refine calDc F b sc_is_name rfl (by decide) fun A outer s H E hr => ?_
  delta b_is_name
  exact ds_cons (ds_if (dt_w (dw_or (dt_not (dt_val (de_isT .str hK (by rfl) L.z_isinstance (by rfl) L.z_str bt_str (do_pk (i := 0))))) (dw_or (dt_not (dt_chain (o_le) (o_le) (do_val (de_int)) (do_val (de_callB (c_len hK) (by rfl) L.z_len bt_len (da_cons (do_pk (i := 0)) (da_nil)))) (do_val (de_int)))) (dw_or1 (dt_cmp (o_in (hu1 hr) hK) (do_pk (i := 0)) (do_val (de_glob (d := k_RESERVED) (by rfl) L.g_RESERVED))))))) (ds_one (ds_ret (de_bl))) (ds_nil)) (
    ds_one (ds_ret (de_and (de_cmp (o_in (hu1 hr) hK) (do_val (de_ix hK (do_pk (i := 0)) (do_val (de_int)))) (do_val (de_glob (d := k_SMALL) (by rfl) L.g_SMALL))) (de_one (de_allG (n := 2) (own := [("sign", 1)]) ⟨TB, rfl, hT⟩ hr rfl (by rfl) L.z_all sc_is_name.nd (di_seq hK (de_var (i := 0))) (blkOk_by (N := ["value", "sign"]) (sc := C8.fnScope s_is_name) (by decide +kernel)) (fun _ _ _ _ _ _ hr => dg_name (i := 1) sc_is_name.nd) (fun _ _ _ _ _ _ hr => dts_nil) (fun _ _ _ _ _ _ hr => de_or (de_cmp (o_in (hu1 hr) hK) (do_pk (i := 1)) (do_val (de_glob (d := k_SMALL) (by rfl) L.g_SMALL))) (de_one (de_cmp (o_in (hu1 hr) hK) (do_pk (i := 1)) (do_val (de_glob (d := k_DIGITS) (by rfl) L.g_DIGITS))))))))))
/-! is_number -/
abbrev s_is_number : Stmt := topS 5
theorem sc_is_number : FnScope ["value", "least", "most"] ["value", "least", "most"] (C8.fnScope s_is_number) := ⟨rfl, rfl, rfl, by decide +kernel, rfl, by decide +kernel, by decide +kernel⟩
theorem cal_is_number (L : Lw K mg c) {a cd : Addr} {fd : FuncData} (F : DefC K mg "is_number" s_is_number a fd cd) (b : Binds K fd ["value", "least", "most"] [])  : C8.Cal P w K mg base 1 "is_number" (spD c 3 [] m_is_number) [] := by
  have hK := L.hK
  refine calDc F b sc_is_number rfl (by decide) fun A outer s H E hr => ?_
  delta b_is_number
  exact ds_one (ds_ret (de_and (de_isT .int hK (by rfl) L.z_isinstance (by rfl) L.z_int bt_int (do_pk (i := 0))) (de_and (de_not (de_isT .bool hK (by rfl) L.z_isinstance (by rfl) L.z_bool bt_bool (do_pk (i := 0)))) (de_one (de_chain (o_le) (o_le) (do_pk (i := 1)) (do_pk (i := 0)) (do_pk (i := 2)))))))
/-! is_ascending -/
abbrev s_is_ascending : Stmt := topS 6
theorem sc_is_ascending : FnScope ["rows", "k"] ["rows"] (C8.fnScope s_is_ascending) := ⟨rfl, rfl, rfl, by decide +kernel, rfl, by decide +kernel, by decide +kernel⟩
theorem cal_is_ascending (L : Lw K mg c) {a cd : Addr} {fd : FuncData} (F : DefC K mg "is_ascending" s_is_ascending a fd cd) {T : Addr} (TB : GxR.TabB base mg cd T) (hT : T ∈ c.T) (b : Binds K fd ["rows"] [])  : C8.Cal P w K mg base 2 "is_ascending" (spD c 1 [] m_is_ascending) [] := by
  have hK := L.hK
  refine calDc F b sc_is_ascending rfl (by decide) fun A outer s H E hr => ?_
  delta b_is_ascending
  exact ds_one (ds_ret (de_allG (n := 2) (own := [("k", 1)]) ⟨TB, rfl, hT⟩ hr rfl (by rfl) L.z_all sc_is_ascending.nd (di_rng1 (by rfl) L.z_range (da_cons (do_val (de_op (o_sub) (do_val (de_callB (c_len hK) (by rfl) L.z_len bt_len (da_cons (do_pk (i := 0)) (da_nil)))) (do_val (de_int)))) (da_nil))) (blkOk_by (N := ["rows", "k"]) (sc := C8.fnScope s_is_ascending) (by decide +kernel)) (fun _ _ _ _ _ _ hr => dg_name (i := 1) sc_is_ascending.nd) (fun _ _ _ _ _ _ hr => dts_nil) (fun _ _ _ _ _ _ hr => de_cmp (o_lt (hu hr) hK) (do_val (de_ix hK (do_pk (i := 0)) (do_pk (i := 1)))) (do_val (de_ix hK (do_pk (i := 0)) (do_val (de_op (o_add hK) (do_pk (i := 1)) (do_val (de_int)))))))))
/-! is_van -/
abbrev s_is_van : Stmt := topS 13
theorem sc_is_van : FnScope ["offices", "value", "a", "b", "room", "cost"] ["offices", "value"] (C8.fnScope s_is_van) := ⟨rfl, rfl, rfl, by decide +kernel, rfl, by decide +kernel, by decide +kernel⟩
theorem cal_is_van (L : Lw K mg c) {a cd : Addr} {fd : FuncData} (F : DefC K mg "is_van" s_is_van a fd cd) (b : Binds K fd ["offices", "value"] []) (c_is_number : C8.Cal P w K mg base 1 "is_number" (spD c 3 [] m_is_number) []) : C8.Cal P w K mg base 2 "is_van" (spD c 2 [] m_is_van) [] := by
  have hK := L.hK
  refine calDc F b sc_is_van rfl (by decide) fun A outer s H E hr => ?_
  delta b_is_van
  exact ds_cons (ds_if (dt_w (dw_or (dt_not (dt_val (de_isT .tuple hK (by rfl) L.z_isinstance (by rfl) L.z_tuple bt_tuple (do_pk (i := 1))))) (dw_or1 (dt_cmp (o_ne (hu hr) hK) (do_val (de_callB (c_len hK) (by rfl) L.z_len bt_len (da_cons (do_pk (i := 1)) (da_nil)))) (do_val (de_int)))))) (ds_one (ds_ret (de_bl))) (ds_nil)) (
    ds_cons (ds_asg (de_var (i := 1)) (dg_tup hK rfl (dgs_cons (dg_name (i := 2) sc_is_van.nd) (dgs_cons (dg_name (i := 3) sc_is_van.nd) (dgs_cons (dg_name (i := 4) sc_is_van.nd) (dgs_cons (dg_name (i := 5) sc_is_van.nd) (dgs_nil))))))) (
    ds_cons (ds_if (dt_w (dw_or (dt_not (dt_val (de_isT .str hK (by rfl) L.z_isinstance (by rfl) L.z_str bt_str (do_pk (i := 2))))) (dw_or (dt_not (dt_val (de_isT .str hK (by rfl) L.z_isinstance (by rfl) L.z_str bt_str (do_pk (i := 3))))) (dw_or (dt_cmp (o_eq (hu hr) hK) (do_pk (i := 2)) (do_pk (i := 3))) (dw_or (dt_cmp (o_notin (hu1 hr) hK) (do_pk (i := 2)) (do_pk (i := 0))) (dw_or1 (dt_cmp (o_notin (hu1 hr) hK) (do_pk (i := 3)) (do_pk (i := 0))))))))) (ds_one (ds_ret (de_bl))) (ds_nil)) (
    ds_one (ds_ret (de_and (de_call c_is_number hr (by omega) (by rfl) (da_cons (do_val (de_var (i := 4))) (da_cons (do_val (de_int)) (da_cons (do_val (de_glob (d := k_MAX_ROOM) (by rfl) L.g_MAX_ROOM)) (da_nil))))) (de_one (de_call c_is_number hr (by omega) (by rfl) (da_cons (do_val (de_var (i := 5))) (da_cons (do_val (de_int)) (da_cons (do_val (de_glob (d := k_MAX_COST) (by rfl) L.g_MAX_COST)) (da_nil)))))))))))
/-! is_network -/
abbrev s_is_network : Stmt := topS 14
theorem sc_is_network : FnScope ["value", "offices", "vans", "name", "van"] ["value"] (C8.fnScope s_is_network) := ⟨rfl, rfl, rfl, by decide +kernel, rfl, by decide +kernel, by decide +kernel⟩
theorem cal_is_network (L : Lw K mg c) {a cd : Addr} {fd : FuncData} (F : DefC K mg "is_network" s_is_network a fd cd) {T : Addr} (TB : GxR.TabB base mg cd T) (hT : T ∈ c.T) (b : Binds K fd ["value"] []) (c_is_name : C8.Cal P w K mg base 2 "is_name" (spD c 1 [] m_is_name) []) (c_is_van : C8.Cal P w K mg base 2 "is_van" (spD c 2 [] m_is_van) []) (c_is_ascending : C8.Cal P w K mg base 2 "is_ascending" (spD c 1 [] m_is_ascending) []) : C8.Cal P w K mg base 4 "is_network" (spD c 1 [] m_is_network) [] := by
  have hK := L.hK
  refine calDc F b sc_is_network rfl (by decide) fun A outer s H E hr => ?_
  delta b_is_network
  exact ds_cons (ds_if (dt_w (dw_or (dt_not (dt_val (de_isT .tuple hK (by rfl) L.z_isinstance (by rfl) L.z_tuple bt_tuple (do_pk (i := 0))))) (dw_or1 (dt_cmp (o_ne (hu hr) hK) (do_val (de_callB (c_len hK) (by rfl) L.z_len bt_len (da_cons (do_pk (i := 0)) (da_nil)))) (do_val (de_int)))))) (ds_one (ds_ret (de_bl))) (ds_nil)) (
    ds_cons (ds_asg (de_var (i := 0)) (dg_tup hK rfl (dgs_cons (dg_name (i := 1) sc_is_network.nd) (dgs_cons (dg_name (i := 2) sc_is_network.nd) (dgs_nil))))) (
    ds_cons (ds_if (dt_w (dw_or (dt_not (dt_val (de_isT .tuple hK (by rfl) L.z_isinstance (by rfl) L.z_tuple bt_tuple (do_pk (i := 1))))) (dw_or (dt_cmp (o_gt) (do_val (de_callB (c_len hK) (by rfl) L.z_len bt_len (da_cons (do_pk (i := 1)) (da_nil)))) (do_val (de_glob (d := k_MAX_OFFICES) (by rfl) L.g_MAX_OFFICES))) (dw_or1 (dt_not (dt_val (de_allG (n := 5) (own := [("name", 3)]) ⟨TB, rfl, hT⟩ hr rfl (by rfl) L.z_all sc_is_network.nd (di_seq hK (de_var (i := 1))) (blkOk_by (N := ["value", "offices", "vans", "name", "van"]) (sc := C8.fnScope s_is_network) (by decide +kernel)) (fun _ _ _ _ _ _ hr => dg_name (i := 3) sc_is_network.nd) (fun _ _ _ _ _ _ hr => dts_nil) (fun _ _ _ _ _ _ hr => de_call c_is_name hr (by omega) (by rfl) (da_cons (do_val (de_var (i := 3))) (da_nil)))))))))) (ds_one (ds_ret (de_bl))) (ds_nil)) (
    ds_cons (ds_if (dt_w (dw_or (dt_not (dt_val (de_isT .tuple hK (by rfl) L.z_isinstance (by rfl) L.z_tuple bt_tuple (do_pk (i := 2))))) (dw_or (dt_cmp (o_gt) (do_val (de_callB (c_len hK) (by rfl) L.z_len bt_len (da_cons (do_pk (i := 2)) (da_nil)))) (do_val (de_glob (d := k_MAX_VANS) (by rfl) L.g_MAX_VANS))) (dw_or1 (dt_not (dt_val (de_allG (n := 5) (own := [("van", 4)]) ⟨TB, rfl, hT⟩ hr rfl (by rfl) L.z_all sc_is_network.nd (di_seq hK (de_var (i := 2))) (blkOk_by (N := ["value", "offices", "vans", "name", "van"]) (sc := C8.fnScope s_is_network) (by decide +kernel)) (fun _ _ _ _ _ _ hr => dg_name (i := 4) sc_is_network.nd) (fun _ _ _ _ _ _ hr => dts_nil) (fun _ _ _ _ _ _ hr => de_call c_is_van hr (by omega) (by rfl) (da_cons (do_val (de_var (i := 1))) (da_cons (do_val (de_var (i := 4))) (da_nil))))))))))) (ds_one (ds_ret (de_bl))) (ds_nil)) (
    ds_one (ds_ret (de_and (de_call c_is_ascending hr (by omega) (by rfl) (da_cons (do_val (de_var (i := 1))) (da_nil))) (de_one (de_call c_is_ascending hr (by omega) (by rfl) (da_cons (do_val (de_var (i := 2))) (da_nil))))))))))
/-! numbered -/
abbrev s_numbered : Stmt := topS 15
theorem sc_numbered : FnScope ["network", "at", "k", "name", "a", "b", "room", "cost"] ["network"] (C8.fnScope s_numbered) := ⟨rfl, rfl, rfl, by decide +kernel, rfl, by decide +kernel, by decide +kernel⟩
theorem cal_numbered (L : Lw K mg c) {a cd : Addr} {fd : FuncData} (F : DefC K mg "numbered" s_numbered a fd cd) (b : Binds K fd ["network"] [])  : C8.Cal P w K mg base 1 "numbered" (spD c 1 [] m_numbered) [] := by
  have hK := L.hK
  refine calDc F b sc_numbered rfl (by decide) fun A outer s H E hr => ?_
  delta b_numbered
  exact ds_cons (ds_set (i := 1) sc_numbered.nd (de_dic0)) (
    ds_cons (ds_for PassesOwn.never rfl (di_enum hK (by rfl) L.z_enumerate (da_cons (do_val (de_ix hK (do_pk (i := 0)) (do_val (de_int)))) (da_nil))) (dg_tup hK rfl (dgs_cons (dg_name (i := 2) sc_numbered.nd) (dgs_cons (dg_name (i := 3) sc_numbered.nd) (dgs_nil)))) (ds_one (ds_dput (i := 1) (huI hr) (de_var (i := 2)) (do_pk (i := 3))))) (
    ds_one (ds_ret (de_lc (n := 8) (own := [("a", 4), ("b", 5), ("room", 6), ("cost", 7)]) rfl sc_numbered.nd (di_seq hK (de_ix hK (do_pk (i := 0)) (do_val (de_int)))) (blkOk_by (N := ["network", "at", "k", "name", "a", "b", "room", "cost"]) (sc := C8.fnScope s_numbered) (by decide +kernel)) (fun _ _ _ _ _ => dg_tup hK rfl (dgs_cons (dg_name (i := 4) sc_numbered.nd) (dgs_cons (dg_name (i := 5) sc_numbered.nd) (dgs_cons (dg_name (i := 6) sc_numbered.nd) (dgs_cons (dg_name (i := 7) sc_numbered.nd) (dgs_nil)))))) (fun _ _ _ _ _ => dts_nil) (fun _ _ _ _ _ => de_tup (da_cons (do_val (de_dget (i := 1) (huI hr) (do_pk (i := 4)))) (da_cons (do_val (de_dget (i := 1) (huI hr) (do_pk (i := 5)))) (da_cons (do_val (de_var (i := 6))) (da_cons (do_val (de_var (i := 7))) (da_nil))))))))))
/-! is_load -/
abbrev s_is_load : Stmt := topS 16
theorem sc_is_load : FnScope ["network", "value", "part"] ["network", "value"] (C8.fnScope s_is_load) := ⟨rfl, rfl, rfl, by decide +kernel, rfl, by decide +kernel, by decide +kernel⟩
theorem cal_is_load (L : Lw K mg c) {a cd : Addr} {fd : FuncData} (F : DefC K mg "is_load" s_is_load a fd cd) {T : Addr} (TB : GxR.TabB base mg cd T) (hT : T ∈ c.T) (b : Binds K fd ["network", "value"] []) (c_is_number : C8.Cal P w K mg base 1 "is_number" (spD c 3 [] m_is_number) []) : C8.Cal P w K mg base 3 "is_load" (spD c 2 [] m_is_load) [] := by
  have hK := L.hK
  refine calDc F b sc_is_load rfl (by decide) fun A outer s H E hr => ?_
  delta b_is_load
  exact ds_cons (ds_if (dt_w (dw_or (dt_not (dt_val (de_isT .tuple hK (by rfl) L.z_isinstance (by rfl) L.z_tuple bt_tuple (do_pk (i := 1))))) (dw_or1 (dt_cmp (o_ne (hu hr) hK) (do_val (de_callB (c_len hK) (by rfl) L.z_len bt_len (da_cons (do_pk (i := 1)) (da_nil)))) (do_val (de_callB (c_len hK) (by rfl) L.z_len bt_len (da_cons (do_val (de_ix hK (do_pk (i := 0)) (do_val (de_int)))) (da_nil)))))))) (ds_one (ds_ret (de_bl))) (ds_nil)) (
    ds_one (ds_ret (de_and (de_allG (n := 3) (own := [("part", 2)]) ⟨TB, rfl, hT⟩ hr rfl (by rfl) L.z_all sc_is_load.nd (di_seq hK (de_var (i := 1))) (blkOk_by (N := ["network", "value", "part"]) (sc := C8.fnScope s_is_load) (by decide +kernel)) (fun _ _ _ _ _ _ hr => dg_name (i := 2) sc_is_load.nd) (fun _ _ _ _ _ _ hr => dts_nil) (fun _ _ _ _ _ _ hr => de_call c_is_number hr (by omega) (by rfl) (da_cons (do_val (de_var (i := 2))) (da_cons (do_val (de_neg (de_glob (d := k_MAX_LOAD) (by rfl) L.g_MAX_LOAD))) (da_cons (do_val (de_glob (d := k_MAX_LOAD) (by rfl) L.g_MAX_LOAD)) (da_nil)))))) (de_one (de_cmp (o_eq (hu hr) hK) (do_val (de_callB (c_sumT hK rfl) (by rfl) L.z_sum bt_sum (da_cons (do_pk (i := 1)) (da_nil)))) (do_val (de_int)))))))
/-! gone -/
abbrev s_gone : Stmt := topS 17
theorem sc_gone : FnScope ["network", "plan", "found", "k", "a", "b", "room", "cost"] ["network", "plan"] (C8.fnScope s_gone) := ⟨rfl, rfl, rfl, by decide +kernel, rfl, by decide +kernel, by decide +kernel⟩
theorem cal_gone (L : Lw K mg c) {a cd : Addr} {fd : FuncData} (F : DefC K mg "gone" s_gone a fd cd) (b : Binds K fd ["network", "plan"] []) (c_numbered : C8.Cal P w K mg base 1 "numbered" (spD c 1 [] m_numbered) []) : C8.Cal P w K mg base 2 "gone" (spD c 2 [] m_gone) [] := by
  have hK := L.hK
  refine calDc F b sc_gone rfl (by decide) fun A outer s H E hr => ?_
  delta b_gone
  exact ds_cons (ds_set (i := 2) sc_gone.nd (de_op (o_mul) (do_val (de_lst (da_cons (do_val (de_int)) (da_nil)))) (do_val (de_callB (c_len hK) (by rfl) L.z_len bt_len (da_cons (do_val (de_ix hK (do_pk (i := 0)) (do_val (de_int)))) (da_nil)))))) (
    ds_cons (ds_for PassesOwn.never rfl (di_enum hK (by rfl) L.z_enumerate (da_cons (do_val (de_sh (de_call c_numbered hr (by omega) (by rfl) (da_cons (do_val (de_var (i := 0))) (da_nil))))) (da_nil))) (dg_tup hK rfl (dgs_cons (dg_name (i := 3) sc_gone.nd) (dgs_cons (dg_tup hK rfl (dgs_cons (dg_name (i := 4) sc_gone.nd) (dgs_cons (dg_name (i := 5) sc_gone.nd) (dgs_cons (dg_name (i := 6) sc_gone.nd) (dgs_cons (dg_name (i := 7) sc_gone.nd) (dgs_nil)))))) (dgs_nil)))) (ds_cons (ds_augS (i := 2) hK (do_pk (i := 4)) (do_val (de_ix hK (do_pk (i := 1)) (do_pk (i := 3)))) (o_iadd hK)) (
    ds_one (ds_augS (i := 2) hK (do_pk (i := 5)) (do_val (de_ix hK (do_pk (i := 1)) (do_pk (i := 3)))) (o_isub))))) (
    ds_one (ds_ret (de_take (i := 2)))))
/-! is_plan -/
abbrev s_is_plan : Stmt := topS 18
theorem sc_is_plan : FnScope ["network", "load", "value", "vans", "k"] ["network", "load", "value"] (C8.fnScope s_is_plan) := ⟨rfl, rfl, rfl, by decide +kernel, rfl, by decide +kernel, by decide +kernel⟩
theorem cal_is_plan (L : Lw K mg c) {a cd : Addr} {fd : FuncData} (F : DefC K mg "is_plan" s_is_plan a fd cd) {T : Addr} (TB : GxR.TabB base mg cd T) (hT : T ∈ c.T) (b : Binds K fd ["network", "load", "value"] []) (c_is_number : C8.Cal P w K mg base 1 "is_number" (spD c 3 [] m_is_number) []) (c_gone : C8.Cal P w K mg base 2 "gone" (spD c 2 [] m_gone) []) : C8.Cal P w K mg base 3 "is_plan" (spD c 3 [] m_is_plan) [] := by
  have hK := L.hK
  refine calDc F b sc_is_plan rfl (by decide) fun A outer s H E hr => ?_
  delta b_is_plan
  exact ds_cons (ds_set (i := 3) sc_is_plan.nd (de_ix hK (do_pk (i := 0)) (do_val (de_int)))) (
    ds_cons (ds_if (dt_w (dw_or (dt_not (dt_val (de_isT .tuple hK (by rfl) L.z_isinstance (by rfl) L.z_tuple bt_tuple (do_pk (i := 2))))) (dw_or1 (dt_cmp (o_ne (hu hr) hK) (do_val (de_callB (c_len hK) (by rfl) L.z_len bt_len (da_cons (do_pk (i := 2)) (da_nil)))) (do_val (de_callB (c_len hK) (by rfl) L.z_len bt_len (da_cons (do_pk (i := 3)) (da_nil)))))))) (ds_one (ds_ret (de_bl))) (ds_nil)) (
    ds_cons (ds_if (dt_not (dt_val (de_allG (n := 5) (own := [("k", 4)]) ⟨TB, rfl, hT⟩ hr rfl (by rfl) L.z_all sc_is_plan.nd (di_rng1 (by rfl) L.z_range (da_cons (do_val (de_callB (c_len hK) (by rfl) L.z_len bt_len (da_cons (do_pk (i := 3)) (da_nil)))) (da_nil))) (blkOk_by (N := ["network", "load", "value", "vans", "k"]) (sc := C8.fnScope s_is_plan) (by decide +kernel)) (fun _ _ _ _ _ _ hr => dg_name (i := 4) sc_is_plan.nd) (fun _ _ _ _ _ _ hr => dts_nil) (fun _ _ _ _ _ _ hr => de_call c_is_number hr (by omega) (by rfl) (da_cons (do_val (de_ix hK (do_pk (i := 2)) (do_pk (i := 4)))) (da_cons (do_val (de_int)) (da_cons (do_val (de_ix hK (do_val (de_ix hK (do_pk (i := 3)) (do_pk (i := 4)))) (do_val (de_int)))) (da_nil)))))))) (ds_one (ds_ret (de_bl))) (ds_nil)) (
    ds_one (ds_ret (de_cmp (o_eq (hu hr) hK) (do_val (de_call c_gone hr (by omega) (by rfl) (da_cons (do_val (de_var (i := 0))) (da_cons (do_val (de_var (i := 2))) (da_nil))))) (do_val (de_callTy (c_listOf hK) (by rfl) L.z_list bt_list (da_cons (do_pk (i := 1)) (da_nil)))))))))
/-! cost_of -/
abbrev s_cost_of : Stmt := topS 19
theorem sc_cost_of : FnScope ["network", "plan", "van", "many"] ["network", "plan"] (C8.fnScope s_cost_of) := ⟨rfl, rfl, rfl, by decide +kernel, rfl, by decide +kernel, by decide +kernel⟩
theorem cal_cost_of (L : Lw K mg c) {a cd : Addr} {fd : FuncData} (F : DefC K mg "cost_of" s_cost_of a fd cd) {T : Addr} (TB : GxR.TabB base mg cd T) (hT : T ∈ c.T) (b : Binds K fd ["network", "plan"] [])  : C8.Cal P w K mg base 2 "cost_of" (spD c 2 [] m_cost_of) [] := by
  have hK := L.hK
  refine calDc F b sc_cost_of rfl (by decide) fun A outer s H E hr => ?_
  delta b_cost_of
  exact ds_one (ds_ret (de_sumG (n := 4) (own := [("van", 2), ("many", 3)]) ⟨TB, rfl, hT⟩ hr rfl (by rfl) L.z_sum sc_cost_of.nd (di_zip hK (by rfl) L.z_zip (da_cons (do_val (de_ix hK (do_pk (i := 0)) (do_val (de_int)))) (da_cons (do_val (de_var (i := 1))) (da_nil)))) (blkOk_by (N := ["network", "plan", "van", "many"]) (sc := C8.fnScope s_cost_of) (by decide +kernel)) (fun _ _ _ _ _ _ hr => dg_tup hK rfl (dgs_cons (dg_name (i := 2) sc_cost_of.nd) (dgs_cons (dg_name (i := 3) sc_cost_of.nd) (dgs_nil)))) (fun _ _ _ _ _ _ hr => dts_nil) (fun _ _ _ _ _ _ hr => de_op (o_mul) (do_val (de_ix hK (do_pk (i := 2)) (do_val (de_int)))) (do_pk (i := 3)))))
/-! room_out -/
abbrev s_room_out : Stmt := topS 20
theorem sc_room_out : FnScope ["network", "offices", "a", "b", "room", "cost"] ["network", "offices"] (C8.fnScope s_room_out) := ⟨rfl, rfl, rfl, by decide +kernel, rfl, by decide +kernel, by decide +kernel⟩
theorem cal_room_out (L : Lw K mg c) {a cd : Addr} {fd : FuncData} (F : DefC K mg "room_out" s_room_out a fd cd) {T : Addr} (TB : GxR.TabB base mg cd T) (hT : T ∈ c.T) (b : Binds K fd ["network", "offices"] []) (c_numbered : C8.Cal P w K mg base 1 "numbered" (spD c 1 [] m_numbered) []) : C8.Cal P w K mg base 3 "room_out" (spD c 2 [] m_room_out) [] := by
  have hK := L.hK
  refine calDc F b sc_room_out rfl (by decide) fun A outer s H E hr => ?_
  delta b_room_out
  exact ds_one (ds_ret (de_sumG (n := 6) (own := [("a", 2), ("b", 3), ("room", 4), ("cost", 5)]) ⟨TB, rfl, hT⟩ hr rfl (by rfl) L.z_sum sc_room_out.nd (di_seq hK (de_call c_numbered hr (by omega) (by rfl) (da_cons (do_val (de_var (i := 0))) (da_nil)))) (blkOk_by (N := ["network", "offices", "a", "b", "room", "cost"]) (sc := C8.fnScope s_room_out) (by decide +kernel)) (fun _ _ _ _ _ _ hr => dg_tup hK rfl (dgs_cons (dg_name (i := 2) sc_room_out.nd) (dgs_cons (dg_name (i := 3) sc_room_out.nd) (dgs_cons (dg_name (i := 4) sc_room_out.nd) (dgs_cons (dg_name (i := 5) sc_room_out.nd) (dgs_nil)))))) (fun _ _ _ _ _ _ hr => dts_one (dt_w (dw_and (dt_cmp (o_in (hu1 hr) hK) (do_pk (i := 2)) (do_pk (i := 1))) (dw_and1 (dt_cmp (o_notin (hu1 hr) hK) (do_pk (i := 3)) (do_pk (i := 1))))))) (fun _ _ _ _ _ _ hr => de_var (i := 4))))
/-! _law_box -/
abbrev s__law_box : Stmt := topS 22
theorem sc__law_box : FnScope ["script"] ["script"] (C8.fnScope s__law_box) := ⟨rfl, rfl, rfl, by decide +kernel, rfl, by decide +kernel, by decide +kernel⟩
theorem cal__law_box (L : Lw K mg c) {a cd : Addr} {fd : FuncData} (F : DefC K mg "_law_box" s__law_box a fd cd) (b : Binds K fd ["script"] []) : C8.Cal P w K mg base 1 "_law_box" (spBox c) [] := by
  have hK := L.hK
  refine calAny F b sc__law_box (fun vs H Q E h => ?_) fun A outer s H E hr => ⟨tBoxL K, pss_one (ps_ret (pe_lst (pa_cons (pe_callTy call_list_of (by rfl) L.z_list bt_list (pa_cons (pe_slice sl_list (pv 0) po_none (po_some pe_int)) pa_nil)) (pa_cons pe_int (pa_cons (pe_op op_add pe_int (pe_callB call_len_seq (by rfl) L.z_len bt_len (pa_cons (pv 0) pa_nil))) pa_nil))))), fun vs Q h => ?_⟩
  · obtain ⟨a, ns, rfl, _⟩ := h
    rfl
  · subst hK
    exact box_ok rfl h
/-! _law_load -/
abbrev s__law_load : Stmt := topS 23
theorem sc__law_load : FnScope ["box", "cells", "cell", "size", "first", "second"] ["box"] (C8.fnScope s__law_load) := ⟨rfl, rfl, rfl, by decide +kernel, rfl, by decide +kernel, by decide +kernel⟩
theorem cal__law_load (L : Lw K mg c) {a cd : Addr} {fd : FuncData} (F : DefC K mg "_law_load" s__law_load a fd cd) (b : Binds K fd ["box"] []) : C8.Cal P w K mg base 1 "_law_load" (spD c 1 [0] m_load) [] := by
  have hK := L.hK
  refine calRaw F b sc__law_load rfl fun A outer s H E hr => ?_
  refine ⟨_, pss_cons (ps_set (i := 1) sc__law_load.nd rfl (.inl rfl) (pe_ix ix_list (pv 0) pe_int (fun _ _ => rfl)))
    (pss_cons (ps_if (pt_cmpR op_gt (pe_callB call_len_seq (by rfl) L.z_len bt_len (pa_cons (pv 1) pa_nil)) pe_int (nomark _))
      (pss_cons (ps_set (i := 2) sc__law_load.nd rfl (.inl rfl) (pe_callTy call_int1 (by rfl) L.z_int bt_int (pa_cons (pe_bm PySem.F.plainAttrs_list PySem.F.slot_list_pop PySem.F.type_list_pop mt_popAt (pv 1) (pa_cons pe_int pa_nil)) pa_nil)))
      (pss_cons (ps_set (i := 3) sc__law_load.nd rfl (.inl rfl) (pe_ifExp (pt_cmpR op_ge (pv 2) pe_int (nomark _)) (pe_op op_mul pe_int (pv 2)) (pe_op op_sub (pe_op op_mul (pe_un un_neg pe_int) (pv 2)) pe_int)))
      (pss_cons (ps_if (pt_cmpR op_ge (pv 3) pe_int (nomark _)) (pss_one (ps_ret (pv 3))) pss_nil)
      (pss_one (ps_asg (pe_op op_mod (pe_callTy call_int1 (by rfl) L.z_int bt_int (pa_cons (pe_op op_add (pe_op op_add (pe_op op_mul (pe_ix ix_list (pv 0) pe_int (fun _ _ => rfl)) pe_int) (pe_op op_mul (pv 3) pe_int)) pe_int) pa_nil)) pe_int) (pg_sub (pv 0) pe_int set_list))))))
      pss_nil)
    (pss_cons (ps_set (i := 4) sc__law_load.nd rfl (.inl rfl) (pe_op op_mod (pe_callTy call_int1 (by rfl) L.z_int bt_int (pa_cons (pe_op op_add (pe_op op_mul (pe_ix ix_list (pv 0) pe_int (fun _ _ => rfl)) pe_int) pe_int) pa_nil)) pe_int))
    (pss_cons (ps_set (i := 5) sc__law_load.nd rfl (.inl rfl) (pe_op op_mod (pe_callTy call_int1 (by rfl) L.z_int bt_int (pa_cons (pe_op op_add (pe_op op_mul (pv 4) pe_int) pe_int) pa_nil)) pe_int))
    (pss_cons (ps_asg (pe_op op_mod (pe_callTy call_int1 (by rfl) L.z_int bt_int (pa_cons (pe_op op_add (pe_op op_mul (pv 5) pe_int) pe_int) pa_nil)) pe_int) (pg_sub (pv 0) pe_int set_list))
    (pss_one (ps_ret (pe_op op_add (pe_op op_add (pe_op op_mul (pv 4) pe_int) (pe_op op_mul (pv 5) pe_int)) (pe_ix ix_list (pv 0) pe_int (fun _ _ => rfl))))))))), fun vs Q h => ?_⟩
  exact load_ok hK rfl h

/-! _law_draw -/
abbrev s__law_draw : Stmt := topS 24
theorem sc__law_draw : FnScope ["box", "many", "digit"] ["box", "many"] (C8.fnScope s__law_draw) := ⟨rfl, rfl, rfl, by decide +kernel, rfl, by decide +kernel, by decide +kernel⟩
theorem cal__law_draw (L : Lw K mg c) {a cd : Addr} {fd : FuncData} (F : DefC K mg "_law_draw" s__law_draw a fd cd) (b : Binds K fd ["box", "many"] []) (c__law_load : C8.Cal P w K mg base 1 "_law_load" (spD c 1 [0] m_load) []) : C8.Cal P w K mg base 2 "_law_draw" (spD c 2 [0] m__law_draw) [] := by
  have hK := L.hK
  refine calDc F b sc__law_draw rfl (by decide) fun A outer s H E hr => ?_
  delta b__law_draw
  exact ds_cons (ds_if (dt_cmp (o_lt (hu hr) hK) (do_val (de_ix hK (do_pk (i := 0)) (do_val (de_int)))) (do_pk (i := 1))) (ds_one (ds_asg (de_call c__law_load hr (by omega) (by rfl) (da_cons (do_pk (i := 0)) (da_nil))) (dg_ixB (i := 0) (k := 0)))) (ds_nil)) (
    ds_cons (ds_set (i := 2) sc__law_draw.nd (de_op (o_mod) (do_val (de_callTy (c_int) (by rfl) L.z_int bt_int (da_cons (do_val (de_ix hK (do_pk (i := 0)) (do_val (de_int)))) (da_nil)))) (do_pk (i := 1)))) (
    ds_cons (ds_asg (de_op (o_fdiv) (do_val (de_ix hK (do_pk (i := 0)) (do_val (de_int)))) (do_pk (i := 1))) (dg_ixB (i := 0) (k := 0))) (
    ds_one (ds_ret (de_take (i := 2))))))
/-! _law_same -/
abbrev s__law_same : Stmt := topS 25
theorem sc__law_same : FnScope ["a", "b", "k"] ["a", "b"] (C8.fnScope s__law_same) := ⟨rfl, rfl, rfl, by decide +kernel, rfl, by decide +kernel, by decide +kernel⟩
theorem calN__law_same (L : Lw K mg c) {a cd : Addr} {fd : FuncData} (F : DefC K mg "_law_same" s__law_same a fd cd) (b : Binds K fd ["a", "b"] [])  : ∀ n : Nat, C8.Cal P w K mg base (n * 1 + 1) "_law_same" (spD c 2 [] (m__law_same n)) []
  | 0 => calVoid F b sc__law_same rfl
  | n + 1 => by
    have hK := L.hK
    have c__law_same := calN__law_same L F b  n
    have e : (n + 1) * 1 + 1 = (n * 1 + 1) + 1 := by omega
    rw [e]
    refine calDc F b sc__law_same rfl (by decide) fun A outer s H E hr => ?_
    delta b__law_same
    exact ds_cons (ds_if (dt_w (dw_or (dt_w (dw_and (dt_val (de_isT .tuple hK (by rfl) L.z_isinstance (by rfl) L.z_tuple bt_tuple (do_pk (i := 0)))) (dw_and1 (dt_val (de_isT .tuple hK (by rfl) L.z_isinstance (by rfl) L.z_tuple bt_tuple (do_pk (i := 1))))))) (dw_or1 (dt_w (dw_and (dt_val (de_isT .list hK (by rfl) L.z_isinstance (by rfl) L.z_list bt_list (do_pk (i := 0)))) (dw_and1 (dt_val (de_isT .list hK (by rfl) L.z_isinstance (by rfl) L.z_list bt_list (do_pk (i := 1)))))))))) (ds_one (ds_ret (de_and (de_cmp (o_eq (hu hr) hK) (do_val (de_callB (c_len hK) (by rfl) L.z_len bt_len (da_cons (do_pk (i := 0)) (da_nil)))) (do_val (de_callB (c_len hK) (by rfl) L.z_len bt_len (da_cons (do_pk (i := 1)) (da_nil))))) (de_one (de_callB (c_all rfl) (by rfl) L.z_all bt_all (da_cons (do_val (de_lc (n := 3) (own := [("k", 2)]) rfl sc__law_same.nd (di_rng1 (by rfl) L.z_range (da_cons (do_val (de_callB (c_len hK) (by rfl) L.z_len bt_len (da_cons (do_pk (i := 0)) (da_nil)))) (da_nil))) (blkOk_by (N := ["a", "b", "k"]) (sc := C8.fnScope s__law_same) (by decide +kernel)) (fun _ _ _ _ _ => dg_name (i := 2) sc__law_same.nd) (fun _ _ _ _ _ => dts_nil) (fun _ _ _ _ _ => de_call c__law_same hr (by omega) (by rfl) (da_cons (do_val (de_ix hK (do_pk (i := 0)) (do_pk (i := 2)))) (da_cons (do_val (de_ix hK (do_pk (i := 1)) (do_pk (i := 2)))) (da_nil)))))) (da_nil))))))) (ds_nil)) (
    ds_cons (ds_if (dt_w (dw_or (dt_val (de_isT .bool hK (by rfl) L.z_isinstance (by rfl) L.z_bool bt_bool (do_pk (i := 0)))) (dw_or1 (dt_val (de_isT .bool hK (by rfl) L.z_isinstance (by rfl) L.z_bool bt_bool (do_pk (i := 1))))))) (ds_one (ds_ret (de_and (de_isT .bool hK (by rfl) L.z_isinstance (by rfl) L.z_bool bt_bool (do_pk (i := 0))) (de_and (de_isT .bool hK (by rfl) L.z_isinstance (by rfl) L.z_bool bt_bool (do_pk (i := 1))) (de_one (de_cmp (o_eq (hu hr) hK) (do_pk (i := 0)) (do_pk (i := 1)))))))) (ds_nil)) (
    ds_cons (ds_if (dt_w (dw_or (dt_w (dw_and (dt_val (de_isT .int hK (by rfl) L.z_isinstance (by rfl) L.z_int bt_int (do_pk (i := 0)))) (dw_and1 (dt_val (de_isT .int hK (by rfl) L.z_isinstance (by rfl) L.z_int bt_int (do_pk (i := 1))))))) (dw_or1 (dt_w (dw_and (dt_val (de_isT .str hK (by rfl) L.z_isinstance (by rfl) L.z_str bt_str (do_pk (i := 0)))) (dw_and1 (dt_val (de_isT .str hK (by rfl) L.z_isinstance (by rfl) L.z_str bt_str (do_pk (i := 1)))))))))) (ds_one (ds_ret (de_cmp (o_eq (hu hr) hK) (do_pk (i := 0)) (do_pk (i := 1))))) (ds_nil)) (
    ds_one (ds_ret (de_and (de_cmp (o_is) (do_pk (i := 0)) (do_val (de_non))) (de_one (de_cmp (o_is) (do_pk (i := 1)) (do_val (de_non)))))))))
theorem cal__law_same (L : Lw K mg c) {a cd : Addr} {fd : FuncData} (F : DefC K mg "_law_same" s__law_same a fd cd) (b : Binds K fd ["a", "b"] [])  : C8.Cal P w K mg base 9 "_law_same" (spD c 2 [] (m__law_same 8)) [] := calN__law_same L F b  8
/-! _law_names -/
abbrev s__law_names : Stmt := topS 26
theorem sc__law_names : FnScope ["box", "many", "found", "k", "text", "sign"] ["box", "many"] (C8.fnScope s__law_names) := ⟨rfl, rfl, rfl, by decide +kernel, rfl, by decide +kernel, by decide +kernel⟩
theorem cal__law_names (L : Lw K mg c) {a cd : Addr} {fd : FuncData} (F : DefC K mg "_law_names" s__law_names a fd cd) (b : Binds K fd ["box", "many"] []) (c__law_draw : C8.Cal P w K mg base 2 "_law_draw" (spD c 2 [0] m__law_draw) []) : C8.Cal P w K mg base 3 "_law_names" (spD c 2 [0] m__law_names) [] := by
  have hK := L.hK
  refine calDc F b sc__law_names rfl (by decide) fun A outer s H E hr => ?_
  delta b__law_names
  exact ds_cons (ds_set (i := 2) sc__law_names.nd (de_lst (da_nil))) (
    ds_cons (ds_for PassesOwn.never rfl (di_rng1 (by rfl) L.z_range (da_cons (do_pk (i := 1)) (da_nil))) (dg_name (i := 3) sc__law_names.nd) (ds_cons (ds_set (i := 4) sc__law_names.nd (de_ix hK (do_val (de_str)) (do_val (de_call c__law_draw hr (by omega) (by rfl) (da_cons (do_pk (i := 0)) (da_cons (do_val (de_int)) (da_nil))))))) (
    ds_cons (ds_for PassesOwn.never rfl (di_rng1 (by rfl) L.z_range (da_cons (do_val (de_op (o_mul) (do_val (de_call c__law_draw hr (by omega) (by rfl) (da_cons (do_pk (i := 0)) (da_cons (do_val (de_int)) (da_nil))))) (do_val (de_call c__law_draw hr (by omega) (by rfl) (da_cons (do_pk (i := 0)) (da_cons (do_val (de_int)) (da_nil))))))) (da_nil))) (dg_name (i := 5) sc__law_names.nd) (ds_one (ds_set (i := 4) sc__law_names.nd (de_op (o_add hK) (do_pk (i := 4)) (do_val (de_ix hK (do_val (de_str)) (do_val (de_call c__law_draw hr (by omega) (by rfl) (da_cons (do_pk (i := 0)) (da_cons (do_val (de_int)) (da_nil))))))))))) (
    ds_one (ds_if (dt_cmp (o_notin (hu1 hr) hK) (do_pk (i := 4)) (do_val (de_tup (da_cons (do_val (de_str)) (da_cons (do_val (de_str)) (da_cons (do_val (de_str)) (da_nil))))))) (ds_one (ds_expr (de_mt (i := 2) hK PySem.F.slot_list_append PySem.F.type_list_append m_append (da_cons (do_val (de_var (i := 4))) (da_nil))))) (ds_nil)))))) (
    ds_one (ds_ret (de_callTy (c_tupOf hK) (by rfl) L.z_tuple bt_tuple (da_cons (do_val (de_sortSetD hK rfl (hu160 hr) (by rfl) L.z_sorted (by rfl) L.z_set (de_var (i := 2)))) (da_nil))))))
/-! _law_bent -/
abbrev s__law_bent : Stmt := topS 27
theorem sc__law_bent : FnScope ["box", "value", "at", "pick"] ["box", "value"] (C8.fnScope s__law_bent) := ⟨rfl, rfl, rfl, by decide +kernel, rfl, by decide +kernel, by decide +kernel⟩
theorem calN__law_bent (L : Lw K mg c) {a cd : Addr} {fd : FuncData} (F : DefC K mg "_law_bent" s__law_bent a fd cd) (b : Binds K fd ["box", "value"] []) (c__law_draw : C8.Cal P w K mg base 2 "_law_draw" (spD c 2 [0] m__law_draw) []) : ∀ n : Nat, C8.Cal P w K mg base (n * 1 + 3) "_law_bent" (spD c 2 [0] (m__law_bent n)) []
  | 0 => calVoid F b sc__law_bent rfl
  | n + 1 => by
    have hK := L.hK
    have c__law_bent := calN__law_bent L F b c__law_draw n
    have e : (n + 1) * 1 + 3 = (n * 1 + 3) + 1 := by omega
    rw [e]
    refine calDc F b sc__law_bent rfl (by decide) fun A outer s H E hr => ?_
    delta b__law_bent
    exact ds_cons (ds_if (dt_w (dw_and (dt_val (de_isT .tuple hK (by rfl) L.z_isinstance (by rfl) L.z_tuple bt_tuple (do_pk (i := 1)))) (dw_and (dt_cmp (o_gt) (do_val (de_callB (c_len hK) (by rfl) L.z_len bt_len (da_cons (do_pk (i := 1)) (da_nil)))) (do_val (de_int))) (dw_and1 (dt_cmp (o_gt) (do_val (de_call c__law_draw hr (by omega) (by rfl) (da_cons (do_pk (i := 0)) (da_cons (do_val (de_int)) (da_nil))))) (do_val (de_int))))))) (ds_cons (ds_set (i := 2) sc__law_bent.nd (de_call c__law_draw hr (by omega) (by rfl) (da_cons (do_pk (i := 0)) (da_cons (do_val (de_callB (c_len hK) (by rfl) L.z_len bt_len (da_cons (do_pk (i := 1)) (da_nil)))) (da_nil))))) (
    ds_one (ds_ret (de_op (o_add hK) (do_val (de_op (o_add hK) (do_val (de_slice hK (do_pk (i := 1)) (dp_none) (dp_some (de_var (i := 2))))) (do_val (de_tup (da_cons (do_val (de_sh (de_call c__law_bent hr (by omega) (by rfl) (da_cons (do_pk (i := 0)) (da_cons (do_val (de_ix hK (do_pk (i := 1)) (do_pk (i := 2)))) (da_nil)))))) (da_nil)))))) (do_val (de_slice hK (do_pk (i := 1)) (dp_some (de_op (o_add hK) (do_pk (i := 2)) (do_val (de_int)))) (dp_none))))))) (ds_nil)) (
    ds_cons (ds_set (i := 3) sc__law_bent.nd (de_call c__law_draw hr (by omega) (by rfl) (da_cons (do_pk (i := 0)) (da_cons (do_val (de_int)) (da_nil))))) (
    ds_cons (ds_if (dt_val (de_isT .tuple hK (by rfl) L.z_isinstance (by rfl) L.z_tuple bt_tuple (do_pk (i := 1)))) (ds_one (ds_ret (de_ix hK (do_val (de_lst (da_cons (do_val (de_sh (de_op (o_add hK) (do_pk (i := 1)) (do_val (de_slice hK (do_pk (i := 1)) (dp_none) (dp_some (de_int))))))) (da_cons (do_val (de_sh (de_slice hK (do_pk (i := 1)) (dp_some (de_int)) (dp_none)))) (da_cons (do_val (de_sh (de_rev hK (do_pk (i := 1))))) (da_cons (do_val (de_sh (de_op (o_add hK) (do_pk (i := 1)) (do_val (de_tup (da_cons (do_val (de_int)) (da_nil))))))) (da_cons (do_val (de_sh (de_op (o_add hK) (do_val (de_slice hK (do_pk (i := 1)) (dp_none) (dp_some (de_int)))) (do_pk (i := 1))))) (da_cons (do_val (de_sh (de_slice hK (do_pk (i := 1)) (dp_none) (dp_some (de_neg (de_int)))))) (da_cons (do_val (de_non)) (da_cons (do_val (de_sh (de_slice hK (do_pk (i := 1)) (dp_none) (dp_some (de_int))))) (da_nil))))))))))) (do_pk (i := 3))))) (ds_nil)) (
    ds_cons (ds_if (dt_w (dw_and (dt_val (de_isT .int hK (by rfl) L.z_isinstance (by rfl) L.z_int bt_int (do_pk (i := 1)))) (dw_and1 (dt_not (dt_val (de_isT .bool hK (by rfl) L.z_isinstance (by rfl) L.z_bool bt_bool (do_pk (i := 1)))))))) (ds_one (ds_ret (de_ix hK (do_val (de_lst (da_cons (do_val (de_sh (de_op (o_add hK) (do_pk (i := 1)) (do_val (de_int))))) (da_cons (do_val (de_sh (de_op (o_sub) (do_pk (i := 1)) (do_val (de_int))))) (da_cons (do_val (de_neg (de_var (i := 1)))) (da_cons (do_val (de_cmp (o_eq (hu hr) hK) (do_pk (i := 1)) (do_val (de_int)))) (da_cons (do_val (de_non)) (da_cons (do_val (de_sh (de_callTy (c_str) (by rfl) L.z_str bt_str (da_cons (do_pk (i := 1)) (da_nil))))) (da_cons (do_val (de_tup (da_cons (do_val (de_var (i := 1))) (da_nil)))) (da_cons (do_val (de_sh (de_op (o_add hK) (do_pk (i := 1)) (do_val (de_int))))) (da_nil))))))))))) (do_pk (i := 3))))) (ds_nil)) (
    ds_cons (ds_if (dt_val (de_isT .str hK (by rfl) L.z_isinstance (by rfl) L.z_str bt_str (do_pk (i := 1)))) (ds_one (ds_ret (de_ix hK (do_val (de_lst (da_cons (do_val (de_sh (de_op (o_add hK) (do_pk (i := 1)) (do_val (de_str))))) (da_cons (do_val (de_sh (de_slice hK (do_pk (i := 1)) (dp_some (de_int)) (dp_none)))) (da_cons (do_val (de_str)) (da_cons (do_val (de_sh (de_mv0 hK PySem.F.plainAttrs_str PySem.F.slot_str_upper PySem.F.type_str_upper (m_upper) (do_pk (i := 1))))) (da_cons (do_val (de_int)) (da_cons (do_val (de_str)) (da_cons (do_val (de_sh (de_op (o_add hK) (do_pk (i := 1)) (do_val (de_str))))) (da_cons (do_val (de_tup (da_cons (do_val (de_var (i := 1))) (da_nil)))) (da_nil))))))))))) (do_pk (i := 3))))) (ds_nil)) (
    ds_one (ds_ret (de_ix hK (do_val (de_lst (da_cons (do_val (de_int)) (da_cons (do_val (de_int)) (da_cons (do_val (de_non)) (da_cons (do_val (de_bl)) (da_cons (do_val (de_bl)) (da_cons (do_val (de_str)) (da_cons (do_val (de_tup (da_nil))) (da_cons (do_val (de_neg (de_int))) (da_nil))))))))))) (do_pk (i := 3)))))))))
theorem cal__law_bent (L : Lw K mg c) {a cd : Addr} {fd : FuncData} (F : DefC K mg "_law_bent" s__law_bent a fd cd) (b : Binds K fd ["box", "value"] []) (c__law_draw : C8.Cal P w K mg base 2 "_law_draw" (spD c 2 [0] m__law_draw) []) : C8.Cal P w K mg base 11 "_law_bent" (spD c 2 [0] (m__law_bent 8)) [] := calN__law_bent L F b c__law_draw 8
/-! _law_whole -/
abbrev s__law_whole : Stmt := topS 28
theorem sc__law_whole : FnScope ["value", "low", "high"] ["value", "low", "high"] (C8.fnScope s__law_whole) := ⟨rfl, rfl, rfl, by decide +kernel, rfl, by decide +kernel, by decide +kernel⟩
theorem cal__law_whole (L : Lw K mg c) {a cd : Addr} {fd : FuncData} (F : DefC K mg "_law_whole" s__law_whole a fd cd) (b : Binds K fd ["value", "low", "high"] [])  : C8.Cal P w K mg base 1 "_law_whole" (spD c 3 [] m__law_whole) [] := by
  have hK := L.hK
  refine calDc F b sc__law_whole rfl (by decide) fun A outer s H E hr => ?_
  delta b__law_whole
  exact ds_one (ds_ret (de_and (de_isT .int hK (by rfl) L.z_isinstance (by rfl) L.z_int bt_int (do_pk (i := 0))) (de_and (de_not (de_isT .bool hK (by rfl) L.z_isinstance (by rfl) L.z_bool bt_bool (do_pk (i := 0)))) (de_one (de_chain (o_le) (o_le) (do_pk (i := 1)) (do_pk (i := 0)) (do_pk (i := 2)))))))
/-! _law_is_name -/
abbrev s__law_is_name : Stmt := topS 29
theorem sc__law_is_name : FnScope ["value", "small", "sign"] ["value"] (C8.fnScope s__law_is_name) := ⟨rfl, rfl, rfl, by decide +kernel, rfl, by decide +kernel, by decide +kernel⟩
theorem cal__law_is_name (L : Lw K mg c) {a cd : Addr} {fd : FuncData} (F : DefC K mg "_law_is_name" s__law_is_name a fd cd) (b : Binds K fd ["value"] [])  : C8.Cal P w K mg base 1 "_law_is_name" (spD c 1 [] m__law_is_name) [] := by
  have hK := L.hK
  refine calDc F b sc__law_is_name rfl (by decide) fun A outer s H E hr => ?_
  delta b__law_is_name
  exact ds_cons (ds_if (dt_w (dw_or (dt_not (dt_val (de_isT .str hK (by rfl) L.z_isinstance (by rfl) L.z_str bt_str (do_pk (i := 0))))) (dw_or (dt_not (dt_chain (o_le) (o_le) (do_val (de_int)) (do_val (de_callB (c_len hK) (by rfl) L.z_len bt_len (da_cons (do_pk (i := 0)) (da_nil)))) (do_val (de_int)))) (dw_or1 (dt_cmp (o_in (hu1 hr) hK) (do_pk (i := 0)) (do_val (de_tup (da_cons (do_val (de_str)) (da_cons (do_val (de_str)) (da_cons (do_val (de_str)) (da_nil))))))))))) (ds_one (ds_ret (de_bl))) (ds_nil)) (
    ds_cons (ds_set (i := 1) sc__law_is_name.nd (de_str)) (
    ds_one (ds_ret (de_and (de_cmp (o_in (hu1 hr) hK) (do_val (de_ix hK (do_pk (i := 0)) (do_val (de_int)))) (do_pk (i := 1))) (de_one (de_callB (c_all rfl) (by rfl) L.z_all bt_all (da_cons (do_val (de_lc (n := 3) (own := [("sign", 2)]) rfl sc__law_is_name.nd (di_seq hK (de_var (i := 0))) (blkOk_by (N := ["value", "small", "sign"]) (sc := C8.fnScope s__law_is_name) (by decide +kernel)) (fun _ _ _ _ _ => dg_name (i := 2) sc__law_is_name.nd) (fun _ _ _ _ _ => dts_nil) (fun _ _ _ _ _ => de_cmp (o_in (hu1 hr) hK) (do_pk (i := 2)) (do_val (de_op (o_add hK) (do_pk (i := 1)) (do_val (de_str))))))) (da_nil))))))))
/-! _law_is_van -/
abbrev s__law_is_van : Stmt := topS 30
theorem sc__law_is_van : FnScope ["names", "value"] ["names", "value"] (C8.fnScope s__law_is_van) := ⟨rfl, rfl, rfl, by decide +kernel, rfl, by decide +kernel, by decide +kernel⟩
theorem cal__law_is_van (L : Lw K mg c) {a cd : Addr} {fd : FuncData} (F : DefC K mg "_law_is_van" s__law_is_van a fd cd) (b : Binds K fd ["names", "value"] []) (c__law_whole : C8.Cal P w K mg base 1 "_law_whole" (spD c 3 [] m__law_whole) []) : C8.Cal P w K mg base 2 "_law_is_van" (spD c 2 [] m__law_is_van) [] := by
  have hK := L.hK
  refine calDc F b sc__law_is_van rfl (by decide) fun A outer s H E hr => ?_
  delta b__law_is_van
  exact ds_cons (ds_if (dt_w (dw_or (dt_not (dt_val (de_isT .tuple hK (by rfl) L.z_isinstance (by rfl) L.z_tuple bt_tuple (do_pk (i := 1))))) (dw_or1 (dt_cmp (o_ne (hu hr) hK) (do_val (de_callB (c_len hK) (by rfl) L.z_len bt_len (da_cons (do_pk (i := 1)) (da_nil)))) (do_val (de_int)))))) (ds_one (ds_ret (de_bl))) (ds_nil)) (
    ds_cons (ds_if (dt_w (dw_or (dt_not (dt_val (de_isT .str hK (by rfl) L.z_isinstance (by rfl) L.z_str bt_str (do_val (de_ix hK (do_pk (i := 1)) (do_val (de_int))))))) (dw_or (dt_not (dt_val (de_isT .str hK (by rfl) L.z_isinstance (by rfl) L.z_str bt_str (do_val (de_ix hK (do_pk (i := 1)) (do_val (de_int))))))) (dw_or1 (dt_cmp (o_eq (hu hr) hK) (do_val (de_ix hK (do_pk (i := 1)) (do_val (de_int)))) (do_val (de_ix hK (do_pk (i := 1)) (do_val (de_int))))))))) (ds_one (ds_ret (de_bl))) (ds_nil)) (
    ds_cons (ds_if (dt_w (dw_or (dt_cmp (o_notin (hu1 hr) hK) (do_val (de_ix hK (do_pk (i := 1)) (do_val (de_int)))) (do_pk (i := 0))) (dw_or1 (dt_cmp (o_notin (hu1 hr) hK) (do_val (de_ix hK (do_pk (i := 1)) (do_val (de_int)))) (do_pk (i := 0)))))) (ds_one (ds_ret (de_bl))) (ds_nil)) (
    ds_one (ds_ret (de_and (de_call c__law_whole hr (by omega) (by rfl) (da_cons (do_val (de_ix hK (do_pk (i := 1)) (do_val (de_int)))) (da_cons (do_val (de_int)) (da_cons (do_val (de_int)) (da_nil))))) (de_one (de_call c__law_whole hr (by omega) (by rfl) (da_cons (do_val (de_ix hK (do_pk (i := 1)) (do_val (de_int)))) (da_cons (do_val (de_int)) (da_cons (do_val (de_int)) (da_nil)))))))))))
/-! _law_network_due -/
abbrev s__law_network_due : Stmt := topS 31
theorem sc__law_network_due : FnScope ["value", "names", "vans", "name", "k", "van"] ["value"] (C8.fnScope s__law_network_due) := ⟨rfl, rfl, rfl, by decide +kernel, rfl, by decide +kernel, by decide +kernel⟩
theorem cal__law_network_due (L : Lw K mg c) {a cd : Addr} {fd : FuncData} (F : DefC K mg "_law_network_due" s__law_network_due a fd cd) (b : Binds K fd ["value"] []) (c__law_is_name : C8.Cal P w K mg base 1 "_law_is_name" (spD c 1 [] m__law_is_name) []) (c__law_is_van : C8.Cal P w K mg base 2 "_law_is_van" (spD c 2 [] m__law_is_van) []) : C8.Cal P w K mg base 3 "_law_network_due" (spD c 1 [] m__law_network_due) [] := by
  have hK := L.hK
  refine calDc F b sc__law_network_due rfl (by decide) fun A outer s H E hr => ?_
  delta b__law_network_due
  exact ds_cons (ds_if (dt_w (dw_or (dt_not (dt_val (de_isT .tuple hK (by rfl) L.z_isinstance (by rfl) L.z_tuple bt_tuple (do_pk (i := 0))))) (dw_or (dt_cmp (o_ne (hu hr) hK) (do_val (de_callB (c_len hK) (by rfl) L.z_len bt_len (da_cons (do_pk (i := 0)) (da_nil)))) (do_val (de_int))) (dw_or (dt_not (dt_val (de_isT .tuple hK (by rfl) L.z_isinstance (by rfl) L.z_tuple bt_tuple (do_val (de_ix hK (do_pk (i := 0)) (do_val (de_int))))))) (dw_or1 (dt_not (dt_val (de_isT .tuple hK (by rfl) L.z_isinstance (by rfl) L.z_tuple bt_tuple (do_val (de_ix hK (do_pk (i := 0)) (do_val (de_int)))))))))))) (ds_one (ds_ret (de_bl))) (ds_nil)) (
    ds_cons (ds_asg (de_var (i := 0)) (dg_tup hK rfl (dgs_cons (dg_name (i := 1) sc__law_network_due.nd) (dgs_cons (dg_name (i := 2) sc__law_network_due.nd) (dgs_nil))))) (
    ds_cons (ds_if (dt_w (dw_or (dt_cmp (o_gt) (do_val (de_callB (c_len hK) (by rfl) L.z_len bt_len (da_cons (do_pk (i := 1)) (da_nil)))) (do_val (de_int))) (dw_or (dt_cmp (o_gt) (do_val (de_callB (c_len hK) (by rfl) L.z_len bt_len (da_cons (do_pk (i := 2)) (da_nil)))) (do_val (de_int))) (dw_or1 (dt_not (dt_val (de_callB (c_all rfl) (by rfl) L.z_all bt_all (da_cons (do_val (de_lc (n := 6) (own := [("name", 3)]) rfl sc__law_network_due.nd (di_seq hK (de_var (i := 1))) (blkOk_by (N := ["value", "names", "vans", "name", "k", "van"]) (sc := C8.fnScope s__law_network_due) (by decide +kernel)) (fun _ _ _ _ _ => dg_name (i := 3) sc__law_network_due.nd) (fun _ _ _ _ _ => dts_nil) (fun _ _ _ _ _ => de_call c__law_is_name hr (by omega) (by rfl) (da_cons (do_val (de_var (i := 3))) (da_nil))))) (da_nil))))))))) (ds_one (ds_ret (de_bl))) (ds_nil)) (
    ds_cons (ds_if (dt_not (dt_val (de_callB (c_all rfl) (by rfl) L.z_all bt_all (da_cons (do_val (de_lc (n := 6) (own := [("k", 4)]) rfl sc__law_network_due.nd (di_rng1 (by rfl) L.z_range (da_cons (do_val (de_op (o_sub) (do_val (de_callB (c_len hK) (by rfl) L.z_len bt_len (da_cons (do_pk (i := 1)) (da_nil)))) (do_val (de_int)))) (da_nil))) (blkOk_by (N := ["value", "names", "vans", "name", "k", "van"]) (sc := C8.fnScope s__law_network_due) (by decide +kernel)) (fun _ _ _ _ _ => dg_name (i := 4) sc__law_network_due.nd) (fun _ _ _ _ _ => dts_nil) (fun _ _ _ _ _ => de_cmp (o_lt (hu hr) hK) (do_val (de_ix hK (do_pk (i := 1)) (do_pk (i := 4)))) (do_val (de_ix hK (do_pk (i := 1)) (do_val (de_op (o_add hK) (do_pk (i := 4)) (do_val (de_int))))))))) (da_nil))))) (ds_one (ds_ret (de_bl))) (ds_nil)) (
    ds_cons (ds_if (dt_not (dt_val (de_callB (c_all rfl) (by rfl) L.z_all bt_all (da_cons (do_val (de_lc (n := 6) (own := [("van", 5)]) rfl sc__law_network_due.nd (di_seq hK (de_var (i := 2))) (blkOk_by (N := ["value", "names", "vans", "name", "k", "van"]) (sc := C8.fnScope s__law_network_due) (by decide +kernel)) (fun _ _ _ _ _ => dg_name (i := 5) sc__law_network_due.nd) (fun _ _ _ _ _ => dts_nil) (fun _ _ _ _ _ => de_call c__law_is_van hr (by omega) (by rfl) (da_cons (do_val (de_var (i := 1))) (da_cons (do_val (de_var (i := 5))) (da_nil)))))) (da_nil))))) (ds_one (ds_ret (de_bl))) (ds_nil)) (
    ds_one (ds_ret (de_callB (c_all rfl) (by rfl) L.z_all bt_all (da_cons (do_val (de_lc (n := 6) (own := [("k", 4)]) rfl sc__law_network_due.nd (di_rng1 (by rfl) L.z_range (da_cons (do_val (de_op (o_sub) (do_val (de_callB (c_len hK) (by rfl) L.z_len bt_len (da_cons (do_pk (i := 2)) (da_nil)))) (do_val (de_int)))) (da_nil))) (blkOk_by (N := ["value", "names", "vans", "name", "k", "van"]) (sc := C8.fnScope s__law_network_due) (by decide +kernel)) (fun _ _ _ _ _ => dg_name (i := 4) sc__law_network_due.nd) (fun _ _ _ _ _ => dts_nil) (fun _ _ _ _ _ => de_cmp (o_lt (hu hr) hK) (do_val (de_ix hK (do_pk (i := 2)) (do_pk (i := 4)))) (do_val (de_ix hK (do_pk (i := 2)) (do_val (de_op (o_add hK) (do_pk (i := 4)) (do_val (de_int))))))))) (da_nil)))))))))
/-! _law_gone -/
abbrev s__law_gone : Stmt := topS 32
theorem sc__law_gone : FnScope ["network", "plan", "names", "vans", "found", "k"] ["network", "plan"] (C8.fnScope s__law_gone) := ⟨rfl, rfl, rfl, by decide +kernel, rfl, by decide +kernel, by decide +kernel⟩
theorem cal__law_gone (L : Lw K mg c) {a cd : Addr} {fd : FuncData} (F : DefC K mg "_law_gone" s__law_gone a fd cd) (b : Binds K fd ["network", "plan"] [])  : C8.Cal P w K mg base 1 "_law_gone" (spD c 2 [] m__law_gone) [] := by
  have hK := L.hK
  refine calDc F b sc__law_gone rfl (by decide) fun A outer s H E hr => ?_
  delta b__law_gone
  exact ds_cons (ds_asg (de_var (i := 0)) (dg_tup hK rfl (dgs_cons (dg_name (i := 2) sc__law_gone.nd) (dgs_cons (dg_name (i := 3) sc__law_gone.nd) (dgs_nil))))) (
    ds_cons (ds_set (i := 4) sc__law_gone.nd (de_op (o_mul) (do_val (de_lst (da_cons (do_val (de_int)) (da_nil)))) (do_val (de_callB (c_len hK) (by rfl) L.z_len bt_len (da_cons (do_pk (i := 2)) (da_nil)))))) (
    ds_cons (ds_for PassesOwn.never rfl (di_rng1 (by rfl) L.z_range (da_cons (do_val (de_callB (c_len hK) (by rfl) L.z_len bt_len (da_cons (do_pk (i := 3)) (da_nil)))) (da_nil))) (dg_name (i := 5) sc__law_gone.nd) (ds_cons (ds_asg (de_op (o_add hK) (do_val (de_ix hK (do_pk (i := 4)) (do_val (de_mvT hK PySem.F.plainAttrs_tuple PySem.F.slot_tuple_index PySem.F.type_tuple_index (m_indexT hK) (do_pk (i := 2)) (da_cons (do_val (de_ix hK (do_val (de_ix hK (do_pk (i := 3)) (do_pk (i := 5)))) (do_val (de_int)))) (da_nil)))))) (do_val (de_ix hK (do_pk (i := 1)) (do_pk (i := 5))))) (dg_ix (i := 4) (do_val (de_mvT hK PySem.F.plainAttrs_tuple PySem.F.slot_tuple_index PySem.F.type_tuple_index (m_indexT hK) (do_pk (i := 2)) (da_cons (do_val (de_ix hK (do_val (de_ix hK (do_pk (i := 3)) (do_pk (i := 5)))) (do_val (de_int)))) (da_nil)))))) (
    ds_one (ds_asg (de_op (o_sub) (do_val (de_ix hK (do_pk (i := 4)) (do_val (de_mvT hK PySem.F.plainAttrs_tuple PySem.F.slot_tuple_index PySem.F.type_tuple_index (m_indexT hK) (do_pk (i := 2)) (da_cons (do_val (de_ix hK (do_val (de_ix hK (do_pk (i := 3)) (do_pk (i := 5)))) (do_val (de_int)))) (da_nil)))))) (do_val (de_ix hK (do_pk (i := 1)) (do_pk (i := 5))))) (dg_ix (i := 4) (do_val (de_mvT hK PySem.F.plainAttrs_tuple PySem.F.slot_tuple_index PySem.F.type_tuple_index (m_indexT hK) (do_pk (i := 2)) (da_cons (do_val (de_ix hK (do_val (de_ix hK (do_pk (i := 3)) (do_pk (i := 5)))) (do_val (de_int)))) (da_nil))))))))) (
    ds_one (ds_ret (de_callTy (c_tupOf hK) (by rfl) L.z_tuple bt_tuple (da_cons (do_pk (i := 4)) (da_nil)))))))
/-! _law_load_due -/
abbrev s__law_load_due : Stmt := topS 33
theorem sc__law_load_due : FnScope ["network", "value", "part"] ["network", "value"] (C8.fnScope s__law_load_due) := ⟨rfl, rfl, rfl, by decide +kernel, rfl, by decide +kernel, by decide +kernel⟩
theorem cal__law_load_due (L : Lw K mg c) {a cd : Addr} {fd : FuncData} (F : DefC K mg "_law_load_due" s__law_load_due a fd cd) (b : Binds K fd ["network", "value"] []) (c__law_whole : C8.Cal P w K mg base 1 "_law_whole" (spD c 3 [] m__law_whole) []) : C8.Cal P w K mg base 2 "_law_load_due" (spD c 2 [] m__law_load_due) [] := by
  have hK := L.hK
  refine calDc F b sc__law_load_due rfl (by decide) fun A outer s H E hr => ?_
  delta b__law_load_due
  exact ds_cons (ds_if (dt_w (dw_or (dt_not (dt_val (de_isT .tuple hK (by rfl) L.z_isinstance (by rfl) L.z_tuple bt_tuple (do_pk (i := 1))))) (dw_or1 (dt_cmp (o_ne (hu hr) hK) (do_val (de_callB (c_len hK) (by rfl) L.z_len bt_len (da_cons (do_pk (i := 1)) (da_nil)))) (do_val (de_callB (c_len hK) (by rfl) L.z_len bt_len (da_cons (do_val (de_ix hK (do_pk (i := 0)) (do_val (de_int)))) (da_nil)))))))) (ds_one (ds_ret (de_bl))) (ds_nil)) (
    ds_one (ds_ret (de_and (de_callB (c_all rfl) (by rfl) L.z_all bt_all (da_cons (do_val (de_lc (n := 3) (own := [("part", 2)]) rfl sc__law_load_due.nd (di_seq hK (de_var (i := 1))) (blkOk_by (N := ["network", "value", "part"]) (sc := C8.fnScope s__law_load_due) (by decide +kernel)) (fun _ _ _ _ _ => dg_name (i := 2) sc__law_load_due.nd) (fun _ _ _ _ _ => dts_nil) (fun _ _ _ _ _ => de_call c__law_whole hr (by omega) (by rfl) (da_cons (do_val (de_var (i := 2))) (da_cons (do_val (de_neg (de_int))) (da_cons (do_val (de_int)) (da_nil))))))) (da_nil))) (de_one (de_cmp (o_eq (hu hr) hK) (do_val (de_callB (c_sumT hK rfl) (by rfl) L.z_sum bt_sum (da_cons (do_pk (i := 1)) (da_nil)))) (do_val (de_int)))))))
/-! _law_plan_due -/
abbrev s__law_plan_due : Stmt := topS 34
theorem sc__law_plan_due : FnScope ["network", "load", "value", "vans", "k"] ["network", "load", "value"] (C8.fnScope s__law_plan_due) := ⟨rfl, rfl, rfl, by decide +kernel, rfl, by decide +kernel, by decide +kernel⟩
theorem cal__law_plan_due (L : Lw K mg c) {a cd : Addr} {fd : FuncData} (F : DefC K mg "_law_plan_due" s__law_plan_due a fd cd) (b : Binds K fd ["network", "load", "value"] []) (c__law_whole : C8.Cal P w K mg base 1 "_law_whole" (spD c 3 [] m__law_whole) []) (c__law_gone : C8.Cal P w K mg base 1 "_law_gone" (spD c 2 [] m__law_gone) []) : C8.Cal P w K mg base 2 "_law_plan_due" (spD c 3 [] m__law_plan_due) [] := by
  have hK := L.hK
  refine calDc F b sc__law_plan_due rfl (by decide) fun A outer s H E hr => ?_
  delta b__law_plan_due
  exact ds_cons (ds_set (i := 3) sc__law_plan_due.nd (de_ix hK (do_pk (i := 0)) (do_val (de_int)))) (
    ds_cons (ds_if (dt_w (dw_or (dt_not (dt_val (de_isT .tuple hK (by rfl) L.z_isinstance (by rfl) L.z_tuple bt_tuple (do_pk (i := 2))))) (dw_or1 (dt_cmp (o_ne (hu hr) hK) (do_val (de_callB (c_len hK) (by rfl) L.z_len bt_len (da_cons (do_pk (i := 2)) (da_nil)))) (do_val (de_callB (c_len hK) (by rfl) L.z_len bt_len (da_cons (do_pk (i := 3)) (da_nil)))))))) (ds_one (ds_ret (de_bl))) (ds_nil)) (
    ds_cons (ds_if (dt_not (dt_val (de_callB (c_all rfl) (by rfl) L.z_all bt_all (da_cons (do_val (de_lc (n := 5) (own := [("k", 4)]) rfl sc__law_plan_due.nd (di_rng1 (by rfl) L.z_range (da_cons (do_val (de_callB (c_len hK) (by rfl) L.z_len bt_len (da_cons (do_pk (i := 3)) (da_nil)))) (da_nil))) (blkOk_by (N := ["network", "load", "value", "vans", "k"]) (sc := C8.fnScope s__law_plan_due) (by decide +kernel)) (fun _ _ _ _ _ => dg_name (i := 4) sc__law_plan_due.nd) (fun _ _ _ _ _ => dts_nil) (fun _ _ _ _ _ => de_call c__law_whole hr (by omega) (by rfl) (da_cons (do_val (de_ix hK (do_pk (i := 2)) (do_pk (i := 4)))) (da_cons (do_val (de_int)) (da_cons (do_val (de_ix hK (do_val (de_ix hK (do_pk (i := 3)) (do_pk (i := 4)))) (do_val (de_int)))) (da_nil))))))) (da_nil))))) (ds_one (ds_ret (de_bl))) (ds_nil)) (
    ds_one (ds_ret (de_cmp (o_eq (hu hr) hK) (do_val (de_call c__law_gone hr (by omega) (by rfl) (da_cons (do_val (de_var (i := 0))) (da_cons (do_val (de_var (i := 2))) (da_nil))))) (do_pk (i := 1)))))))
/-! _law_network -/
abbrev s__law_network : Stmt := topS 35
theorem sc__law_network : FnScope ["box", "many", "count", "names", "vans", "k", "a", "b", "room", "cost"] ["box", "many", "count"] (C8.fnScope s__law_network) := ⟨rfl, rfl, rfl, by decide +kernel, rfl, by decide +kernel, by decide +kernel⟩
theorem cal__law_network (L : Lw K mg c) {a cd : Addr} {fd : FuncData} (F : DefC K mg "_law_network" s__law_network a fd cd) (b : Binds K fd ["box", "many", "count"] []) (c__law_names : C8.Cal P w K mg base 3 "_law_names" (spD c 2 [0] m__law_names) []) (c__law_draw : C8.Cal P w K mg base 2 "_law_draw" (spD c 2 [0] m__law_draw) []) : C8.Cal P w K mg base 4 "_law_network" (spD c 3 [0] m__law_network) [] := by
  have hK := L.hK
  refine calDc F b sc__law_network rfl (by decide) fun A outer s H E hr => ?_
  delta b__law_network
  exact ds_cons (ds_set (i := 3) sc__law_network.nd (de_call c__law_names hr (by omega) (by rfl) (da_cons (do_pk (i := 0)) (da_cons (do_val (de_var (i := 1))) (da_nil))))) (
    ds_cons (ds_set (i := 4) sc__law_network.nd (de_lst (da_nil))) (
    ds_cons (ds_for PassesOwn.never rfl (di_rng1 (by rfl) L.z_range (da_cons (do_pk (i := 2)) (da_nil))) (dg_name (i := 5) sc__law_network.nd) (ds_one (ds_if (dt_cmp (o_gt) (do_val (de_callB (c_len hK) (by rfl) L.z_len bt_len (da_cons (do_pk (i := 3)) (da_nil)))) (do_val (de_int))) (ds_cons (ds_set (i := 6) sc__law_network.nd (de_call c__law_draw hr (by omega) (by rfl) (da_cons (do_pk (i := 0)) (da_cons (do_val (de_callB (c_len hK) (by rfl) L.z_len bt_len (da_cons (do_pk (i := 3)) (da_nil)))) (da_nil))))) (
    ds_cons (ds_set (i := 7) sc__law_network.nd (de_op (o_mod) (do_val (de_callTy (c_int) (by rfl) L.z_int bt_int (da_cons (do_val (de_op (o_add hK) (do_val (de_op (o_add hK) (do_pk (i := 6)) (do_val (de_int)))) (do_val (de_call c__law_draw hr (by omega) (by rfl) (da_cons (do_pk (i := 0)) (da_cons (do_val (de_op (o_sub) (do_val (de_callB (c_len hK) (by rfl) L.z_len bt_len (da_cons (do_pk (i := 3)) (da_nil)))) (do_val (de_int)))) (da_nil))))))) (da_nil)))) (do_val (de_callB (c_len hK) (by rfl) L.z_len bt_len (da_cons (do_pk (i := 3)) (da_nil)))))) (
    ds_cons (ds_set (i := 8) sc__law_network.nd (de_ix hK (do_val (de_lst (da_cons (do_val (de_sh (de_op (o_add hK) (do_val (de_int)) (do_val (de_call c__law_draw hr (by omega) (by rfl) (da_cons (do_pk (i := 0)) (da_cons (do_val (de_int)) (da_nil)))))))) (da_cons (do_val (de_sh (de_op (o_add hK) (do_val (de_int)) (do_val (de_call c__law_draw hr (by omega) (by rfl) (da_cons (do_pk (i := 0)) (da_cons (do_val (de_int)) (da_nil)))))))) (da_cons (do_val (de_int)) (da_cons (do_val (de_int)) (da_nil))))))) (do_val (de_call c__law_draw hr (by omega) (by rfl) (da_cons (do_pk (i := 0)) (da_cons (do_val (de_int)) (da_nil))))))) (
    ds_cons (ds_set (i := 9) sc__law_network.nd (de_ix hK (do_val (de_lst (da_cons (do_val (de_sh (de_call c__law_draw hr (by omega) (by rfl) (da_cons (do_pk (i := 0)) (da_cons (do_val (de_int)) (da_nil)))))) (da_cons (do_val (de_sh (de_call c__law_draw hr (by omega) (by rfl) (da_cons (do_pk (i := 0)) (da_cons (do_val (de_int)) (da_nil)))))) (da_cons (do_val (de_int)) (da_cons (do_val (de_int)) (da_nil))))))) (do_val (de_call c__law_draw hr (by omega) (by rfl) (da_cons (do_pk (i := 0)) (da_cons (do_val (de_int)) (da_nil))))))) (
    ds_one (ds_expr (de_mt (i := 4) hK PySem.F.slot_list_append PySem.F.type_list_append m_append (da_cons (do_val (de_tup (da_cons (do_val (de_ix hK (do_pk (i := 3)) (do_pk (i := 6)))) (da_cons (do_val (de_ix hK (do_pk (i := 3)) (do_pk (i := 7)))) (da_cons (do_val (de_var (i := 8))) (da_cons (do_val (de_var (i := 9))) (da_nil))))))) (da_nil))))))))) (ds_nil)))) (
    ds_one (ds_ret (de_tup (da_cons (do_val (de_var (i := 3))) (da_cons (do_val (de_sh (de_callTy (c_tupOf hK) (by rfl) L.z_tuple bt_tuple (da_cons (do_val (de_sortSetD hK rfl (hu160 hr) (by rfl) L.z_sorted (by rfl) L.z_set (de_var (i := 4)))) (da_nil))))) (da_nil))))))))
/-! _law_near_fine -/
abbrev s__law_near_fine : Stmt := topS 36
theorem sc__law_near_fine : FnScope ["network", "at", "names", "vans", "a", "b", "room", "cost", "rest", "part", "van"] ["network", "at"] (C8.fnScope s__law_near_fine) := ⟨rfl, rfl, rfl, by decide +kernel, rfl, by decide +kernel, by decide +kernel⟩
theorem cal__law_near_fine (L : Lw K mg c) {a cd : Addr} {fd : FuncData} (F : DefC K mg "_law_near_fine" s__law_near_fine a fd cd) (b : Binds K fd ["network", "at"] []) (c__law_same : C8.Cal P w K mg base 9 "_law_same" (spD c 2 [] (m__law_same 8)) []) (c_is_network : C8.Cal P w K mg base 4 "is_network" (spD c 1 [] m_is_network) []) : C8.Cal P w K mg base 10 "_law_near_fine" (spD c 2 [] m__law_near_fine) [] := by
  have hK := L.hK
  refine calDc F b sc__law_near_fine rfl (by decide) fun A outer s H E hr => ?_
  delta b__law_near_fine
  exact ds_cons (ds_asg (de_var (i := 0)) (dg_tup hK rfl (dgs_cons (dg_name (i := 2) sc__law_near_fine.nd) (dgs_cons (dg_name (i := 3) sc__law_near_fine.nd) (dgs_nil))))) (
    ds_cons (ds_asg (de_ix hK (do_pk (i := 3)) (do_pk (i := 1))) (dg_tup hK rfl (dgs_cons (dg_name (i := 4) sc__law_near_fine.nd) (dgs_cons (dg_name (i := 5) sc__law_near_fine.nd) (dgs_cons (dg_name (i := 6) sc__law_near_fine.nd) (dgs_cons (dg_name (i := 7) sc__law_near_fine.nd) (dgs_nil))))))) (
    ds_cons (ds_set (i := 8) sc__law_near_fine.nd (de_op (o_add hK) (do_val (de_slice hK (do_pk (i := 3)) (dp_none) (dp_some (de_var (i := 1))))) (do_val (de_slice hK (do_pk (i := 3)) (dp_some (de_op (o_add hK) (do_pk (i := 1)) (do_val (de_int)))) (dp_none))))) (
    ds_cons (ds_for PassesOwn.never rfl (di_seq hK (de_tup (da_cons (do_val (de_int)) (da_cons (do_val (de_int)) (da_cons (do_val (de_int)) (da_nil)))))) (dg_name (i := 9) sc__law_near_fine.nd) (ds_one (ds_if (dt_not (dt_val (de_call c__law_same hr (by omega) (by rfl) (da_cons (do_val (de_call c_is_network hr (by omega) (by rfl) (da_cons (do_val (de_tup (da_cons (do_val (de_var (i := 2))) (da_cons (do_val (de_sh (de_callTy (c_tupOf hK) (by rfl) L.z_tuple bt_tuple (da_cons (do_val (de_sortSetD hK rfl (hu160 hr) (by rfl) L.z_sorted (by rfl) L.z_set (de_op (o_add hK) (do_pk (i := 8)) (do_val (de_tup (da_cons (do_val (de_tup (da_cons (do_val (de_var (i := 4))) (da_cons (do_val (de_var (i := 5))) (da_cons (do_val (de_var (i := 9))) (da_cons (do_val (de_var (i := 7))) (da_nil))))))) (da_cons (do_val (de_tup (da_cons (do_val (de_var (i := 4))) (da_cons (do_val (de_var (i := 5))) (da_cons (do_val (de_var (i := 6))) (da_cons (do_val (de_sh (de_op (o_sub) (do_pk (i := 9)) (do_val (de_int))))) (da_nil))))))) (da_nil)))))))) (da_nil))))) (da_nil))))) (da_nil)))) (da_cons (do_val (de_bl)) (da_nil)))))) (ds_one (ds_ret (de_bl))) (ds_nil)))) (
    ds_cons (ds_for PassesOwn.never rfl (di_seq hK (de_tup (da_cons (do_val (de_tup (da_cons (do_val (de_var (i := 4))) (da_cons (do_val (de_var (i := 5))) (da_cons (do_val (de_int)) (da_cons (do_val (de_var (i := 7))) (da_nil))))))) (da_cons (do_val (de_tup (da_cons (do_val (de_var (i := 4))) (da_cons (do_val (de_var (i := 5))) (da_cons (do_val (de_int)) (da_cons (do_val (de_var (i := 7))) (da_nil))))))) (da_cons (do_val (de_tup (da_cons (do_val (de_var (i := 4))) (da_cons (do_val (de_var (i := 5))) (da_cons (do_val (de_var (i := 6))) (da_cons (do_val (de_neg (de_int))) (da_nil))))))) (da_cons (do_val (de_tup (da_cons (do_val (de_var (i := 4))) (da_cons (do_val (de_var (i := 5))) (da_cons (do_val (de_var (i := 6))) (da_cons (do_val (de_int)) (da_nil))))))) (da_cons (do_val (de_tup (da_cons (do_val (de_var (i := 4))) (da_cons (do_val (de_var (i := 4))) (da_cons (do_val (de_var (i := 6))) (da_cons (do_val (de_var (i := 7))) (da_nil))))))) (da_cons (do_val (de_tup (da_cons (do_val (de_var (i := 4))) (da_cons (do_val (de_str)) (da_cons (do_val (de_int)) (da_cons (do_val (de_int)) (da_nil))))))) (da_nil))))))))) (dg_name (i := 10) sc__law_near_fine.nd) (ds_one (ds_if (dt_not (dt_val (de_call c__law_same hr (by omega) (by rfl) (da_cons (do_val (de_call c_is_network hr (by omega) (by rfl) (da_cons (do_val (de_tup (da_cons (do_val (de_var (i := 2))) (da_cons (do_val (de_sh (de_callTy (c_tupOf hK) (by rfl) L.z_tuple bt_tuple (da_cons (do_val (de_callB (c_sorted hK (hu160 hr)) (by rfl) L.z_sorted bt_sorted (da_cons (do_val (de_op (o_add hK) (do_pk (i := 8)) (do_val (de_tup (da_cons (do_val (de_var (i := 10))) (da_nil)))))) (da_nil)))) (da_nil))))) (da_nil))))) (da_nil)))) (da_cons (do_val (de_bl)) (da_nil)))))) (ds_one (ds_ret (de_bl))) (ds_nil)))) (
    ds_cons (ds_for PassesOwn.never rfl (di_seq hK (de_tup (da_cons (do_val (de_tup (da_cons (do_val (de_var (i := 4))) (da_cons (do_val (de_var (i := 5))) (da_cons (do_val (de_bl)) (da_cons (do_val (de_var (i := 7))) (da_nil))))))) (da_cons (do_val (de_tup (da_cons (do_val (de_var (i := 4))) (da_cons (do_val (de_var (i := 5))) (da_cons (do_val (de_var (i := 6))) (da_cons (do_val (de_bl)) (da_nil))))))) (da_cons (do_val (de_tup (da_cons (do_val (de_var (i := 4))) (da_cons (do_val (de_var (i := 5))) (da_cons (do_val (de_var (i := 6))) (da_nil)))))) (da_cons (do_val (de_tup (da_cons (do_val (de_var (i := 4))) (da_cons (do_val (de_var (i := 5))) (da_cons (do_val (de_var (i := 6))) (da_cons (do_val (de_var (i := 7))) (da_cons (do_val (de_int)) (da_nil)))))))) (da_cons (do_val (de_tup (da_cons (do_val (de_var (i := 4))) (da_cons (do_val (de_int)) (da_cons (do_val (de_var (i := 6))) (da_cons (do_val (de_var (i := 7))) (da_nil))))))) (da_cons (do_val (de_non)) (da_cons (do_val (de_str)) (da_nil)))))))))) (dg_name (i := 10) sc__law_near_fine.nd) (ds_one (ds_if (dt_not (dt_val (de_call c__law_same hr (by omega) (by rfl) (da_cons (do_val (de_call c_is_network hr (by omega) (by rfl) (da_cons (do_val (de_tup (da_cons (do_val (de_var (i := 2))) (da_cons (do_val (de_sh (de_op (o_add hK) (do_val (de_op (o_add hK) (do_val (de_slice hK (do_pk (i := 3)) (dp_none) (dp_some (de_var (i := 1))))) (do_val (de_tup (da_cons (do_val (de_var (i := 10))) (da_nil)))))) (do_val (de_slice hK (do_pk (i := 3)) (dp_some (de_op (o_add hK) (do_pk (i := 1)) (do_val (de_int)))) (dp_none)))))) (da_nil))))) (da_nil)))) (da_cons (do_val (de_bl)) (da_nil)))))) (ds_one (ds_ret (de_bl))) (ds_nil)))) (
    ds_one (ds_ret (de_bl))))))))
/-! _law_great_fine -/
abbrev s__law_great_fine : Stmt := topS 37
theorem sc__law_great_fine : FnScope ["names", "k", "vans", "short", "more", "load", "full"] [] (C8.fnScope s__law_great_fine) := ⟨rfl, rfl, rfl, by decide +kernel, rfl, by decide +kernel, by decide +kernel⟩
theorem cal__law_great_fine (L : Lw K mg c) {a cd : Addr} {fd : FuncData} (F : DefC K mg "_law_great_fine" s__law_great_fine a fd cd) (b : Binds K fd [] []) (c_is_network : C8.Cal P w K mg base 4 "is_network" (spD c 1 [] m_is_network) []) (c_is_load : C8.Cal P w K mg base 3 "is_load" (spD c 2 [] m_is_load) []) (c_is_plan : C8.Cal P w K mg base 3 "is_plan" (spD c 3 [] m_is_plan) []) (c_cost_of : C8.Cal P w K mg base 2 "cost_of" (spD c 2 [] m_cost_of) []) (c_room_out : C8.Cal P w K mg base 3 "room_out" (spD c 2 [] m_room_out) []) : C8.Cal P w K mg base 5 "_law_great_fine" (spD c 0 [] m__law_great_fine) [] := by
  have hK := L.hK
  refine calDc F b sc__law_great_fine rfl (by decide) fun A outer s H E hr => ?_
  delta b__law_great_fine
  exact ds_cons (ds_set (i := 0) sc__law_great_fine.nd (de_callTy (c_tupOf hK) (by rfl) L.z_tuple bt_tuple (da_cons (do_val (de_lc (n := 7) (own := [("k", 1)]) rfl sc__law_great_fine.nd (di_rng1 (by rfl) L.z_range (da_cons (do_val (de_int)) (da_nil))) (blkOk_by (N := ["names", "k", "vans", "short", "more", "load", "full"]) (sc := C8.fnScope s__law_great_fine) (by decide +kernel)) (fun _ _ _ _ _ => dg_name (i := 1) sc__law_great_fine.nd) (fun _ _ _ _ _ => dts_nil) (fun _ _ _ _ _ => de_op (o_add hK) (do_val (de_str)) (do_val (de_callTy (c_str) (by rfl) L.z_str bt_str (da_cons (do_val (de_op (o_add hK) (do_pk (i := 1)) (do_val (de_int)))) (da_nil))))))) (da_nil)))) (
    ds_cons (ds_set (i := 2) sc__law_great_fine.nd (de_callTy (c_tupOf hK) (by rfl) L.z_tuple bt_tuple (da_cons (do_val (de_lc (n := 7) (own := [("k", 1)]) rfl sc__law_great_fine.nd (di_rng1 (by rfl) L.z_range (da_cons (do_val (de_int)) (da_nil))) (blkOk_by (N := ["names", "k", "vans", "short", "more", "load", "full"]) (sc := C8.fnScope s__law_great_fine) (by decide +kernel)) (fun _ _ _ _ _ => dg_name (i := 1) sc__law_great_fine.nd) (fun _ _ _ _ _ => dts_nil) (fun _ _ _ _ _ => de_tup (da_cons (do_val (de_ix hK (do_pk (i := 0)) (do_val (de_op (o_fdiv) (do_pk (i := 1)) (do_val (de_int)))))) (da_cons (do_val (de_ix hK (do_pk (i := 0)) (do_val (de_op (o_sub) (do_val (de_op (o_add hK) (do_val (de_int)) (do_pk (i := 1)))) (do_val (de_op (o_mul) (do_val (de_op (o_fdiv) (do_pk (i := 1)) (do_val (de_int)))) (do_val (de_int)))))))) (da_cons (do_val (de_int)) (da_cons (do_val (de_int)) (da_nil)))))))) (da_nil)))) (
    ds_cons (ds_set (i := 3) sc__law_great_fine.nd (de_slice hK (do_pk (i := 0)) (dp_none) (dp_some (de_int)))) (
    ds_cons (ds_if (dt_w (dw_or (dt_cmp (o_isnot) (do_val (de_call c_is_network hr (by omega) (by rfl) (da_cons (do_val (de_tup (da_cons (do_val (de_var (i := 3))) (da_cons (do_val (de_var (i := 2))) (da_nil))))) (da_nil)))) (do_val (de_bl))) (dw_or1 (dt_cmp (o_isnot) (do_val (de_call c_is_network hr (by omega) (by rfl) (da_cons (do_val (de_tup (da_cons (do_val (de_var (i := 0))) (da_cons (do_val (de_var (i := 2))) (da_nil))))) (da_nil)))) (do_val (de_bl)))))) (ds_one (ds_ret (de_bl))) (ds_nil)) (
    ds_cons (ds_set (i := 4) sc__law_great_fine.nd (de_op (o_add hK) (do_pk (i := 2)) (do_val (de_tup (da_cons (do_val (de_tup (da_cons (do_val (de_ix hK (do_pk (i := 0)) (do_val (de_int)))) (da_cons (do_val (de_ix hK (do_pk (i := 0)) (do_val (de_int)))) (da_cons (do_val (de_int)) (da_cons (do_val (de_int)) (da_nil))))))) (da_nil)))))) (
    ds_cons (ds_if (dt_w (dw_or (dt_cmp (o_isnot) (do_val (de_call c_is_network hr (by omega) (by rfl) (da_cons (do_val (de_tup (da_cons (do_val (de_var (i := 3))) (da_cons (do_val (de_sh (de_callTy (c_tupOf hK) (by rfl) L.z_tuple bt_tuple (da_cons (do_val (de_callB (c_sorted hK (hu160 hr)) (by rfl) L.z_sorted bt_sorted (da_cons (do_pk (i := 4)) (da_nil)))) (da_nil))))) (da_nil))))) (da_nil)))) (do_val (de_bl))) (dw_or1 (dt_cmp (o_isnot) (do_val (de_call c_is_network hr (by omega) (by rfl) (da_cons (do_val (de_tup (da_cons (do_val (de_var (i := 3))) (da_cons (do_val (de_sh (de_slice hK (do_pk (i := 4)) (dp_some (de_int)) (dp_none)))) (da_nil))))) (da_nil)))) (do_val (de_bl)))))) (ds_one (ds_ret (de_bl))) (ds_nil)) (
    ds_cons (ds_set (i := 5) sc__law_great_fine.nd (de_callTy (c_tupOf hK) (by rfl) L.z_tuple bt_tuple (da_cons (do_val (de_op (o_add hK) (do_val (de_lc (n := 7) (own := [("k", 1)]) rfl sc__law_great_fine.nd (di_rng1 (by rfl) L.z_range (da_cons (do_val (de_int)) (da_nil))) (blkOk_by (N := ["names", "k", "vans", "short", "more", "load", "full"]) (sc := C8.fnScope s__law_great_fine) (by decide +kernel)) (fun _ _ _ _ _ => dg_name (i := 1) sc__law_great_fine.nd) (fun _ _ _ _ _ => dts_nil) (fun _ _ _ _ _ => de_if (dt_cmp (o_lt (hu hr) hK) (do_pk (i := 1)) (do_val (de_int))) (de_int) (de_int)))) (do_val (de_op (o_mul) (do_val (de_lst (da_cons (do_val (de_neg (de_int))) (da_nil)))) (do_val (de_int)))))) (da_nil)))) (
    ds_cons (ds_set (i := 6) sc__law_great_fine.nd (de_callTy (c_tupOf hK) (by rfl) L.z_tuple bt_tuple (da_cons (do_val (de_op (o_mul) (do_val (de_lst (da_cons (do_val (de_int)) (da_nil)))) (do_val (de_int)))) (da_nil)))) (
    ds_cons (ds_if (dt_w (dw_or (dt_cmp (o_isnot) (do_val (de_call c_is_load hr (by omega) (by rfl) (da_cons (do_val (de_tup (da_cons (do_val (de_var (i := 3))) (da_cons (do_val (de_var (i := 2))) (da_nil))))) (da_cons (do_val (de_var (i := 5))) (da_nil))))) (do_val (de_bl))) (dw_or1 (dt_cmp (o_isnot) (do_val (de_call c_is_plan hr (by omega) (by rfl) (da_cons (do_val (de_tup (da_cons (do_val (de_var (i := 3))) (da_cons (do_val (de_var (i := 2))) (da_nil))))) (da_cons (do_val (de_var (i := 5))) (da_cons (do_val (de_var (i := 6))) (da_nil)))))) (do_val (de_bl)))))) (ds_one (ds_ret (de_bl))) (ds_nil)) (
    ds_cons (ds_if (dt_w (dw_or (dt_cmp (o_isnot) (do_val (de_call c_is_load hr (by omega) (by rfl) (da_cons (do_val (de_tup (da_cons (do_val (de_tup (da_cons (do_val (de_str)) (da_cons (do_val (de_str)) (da_nil))))) (da_cons (do_val (de_tup (da_nil))) (da_nil))))) (da_cons (do_val (de_tup (da_cons (do_val (de_int)) (da_cons (do_val (de_neg (de_int))) (da_nil))))) (da_nil))))) (do_val (de_bl))) (dw_or1 (dt_cmp (o_isnot) (do_val (de_call c_is_load hr (by omega) (by rfl) (da_cons (do_val (de_tup (da_cons (do_val (de_tup (da_cons (do_val (de_str)) (da_cons (do_val (de_str)) (da_nil))))) (da_cons (do_val (de_tup (da_nil))) (da_nil))))) (da_cons (do_val (de_tup (da_cons (do_val (de_int)) (da_cons (do_val (de_neg (de_int))) (da_nil))))) (da_nil))))) (do_val (de_bl)))))) (ds_one (ds_ret (de_bl))) (ds_nil)) (
    ds_one (ds_ret (de_and (de_cmp (o_eq (hu hr) hK) (do_val (de_call c_cost_of hr (by omega) (by rfl) (da_cons (do_val (de_tup (da_cons (do_val (de_var (i := 3))) (da_cons (do_val (de_var (i := 2))) (da_nil))))) (da_cons (do_val (de_var (i := 6))) (da_nil))))) (do_val (de_int))) (de_one (de_cmp (o_eq (hu hr) hK) (do_val (de_call c_room_out hr (by omega) (by rfl) (da_cons (do_val (de_tup (da_cons (do_val (de_var (i := 3))) (da_cons (do_val (de_var (i := 2))) (da_nil))))) (da_cons (do_val (de_rgT1 hK rfl (by rfl) L.z_tuple (by rfl) L.z_range (de_int))) (da_nil))))) (do_val (de_int))))))))))))))))
/-! law -/
abbrev s_law : Stmt := topS 38
theorem sc_law : FnScope ["script", "box", "network", "names", "vans", "turn", "other", "plan", "van", "load", "wrong", "second", "k", "some", "due"] ["script"] (C8.fnScope s_law) := ⟨rfl, rfl, rfl, by decide +kernel, rfl, by decide +kernel, by decide +kernel⟩
theorem fn_law (L : Lw K mg c) {a cd : Addr} {fd : FuncData} (F : DefC K mg "law" s_law a fd cd)  (c__law_box : C8.Cal P w K mg base 1 "_law_box" (spBox c) []) (c__law_network : C8.Cal P w K mg base 4 "_law_network" (spD c 3 [0] m__law_network) []) (c__law_draw : C8.Cal P w K mg base 2 "_law_draw" (spD c 2 [0] m__law_draw) []) (c__law_great_fine : C8.Cal P w K mg base 5 "_law_great_fine" (spD c 0 [] m__law_great_fine) []) (c__law_same : C8.Cal P w K mg base 9 "_law_same" (spD c 2 [] (m__law_same 8)) []) (c_is_network : C8.Cal P w K mg base 4 "is_network" (spD c 1 [] m_is_network) []) (c__law_near_fine : C8.Cal P w K mg base 10 "_law_near_fine" (spD c 2 [] m__law_near_fine) []) (c__law_bent : C8.Cal P w K mg base 11 "_law_bent" (spD c 2 [0] (m__law_bent 8)) []) (c__law_network_due : C8.Cal P w K mg base 3 "_law_network_due" (spD c 1 [] m__law_network_due) []) (c__law_gone : C8.Cal P w K mg base 1 "_law_gone" (spD c 2 [] m__law_gone) []) (c_is_load : C8.Cal P w K mg base 3 "is_load" (spD c 2 [] m_is_load) []) (c_is_plan : C8.Cal P w K mg base 3 "is_plan" (spD c 3 [] m_is_plan) []) (c__law_load_due : C8.Cal P w K mg base 2 "_law_load_due" (spD c 2 [] m__law_load_due) []) (c__law_plan_due : C8.Cal P w K mg base 2 "_law_plan_due" (spD c 3 [] m__law_plan_due) []) (c_cost_of : C8.Cal P w K mg base 2 "cost_of" (spD c 2 [] m_cost_of) []) (c_room_out : C8.Cal P w K mg base 3 "room_out" (spD c 2 [] m_room_out) []) (hf : ∀ ns : List Int, ns.length ≤ 63 → runLaw 13 b_law ns = .ok (.sh, .bool true)) : FnOk P w K mg base C8.CX0 12 a fd ["script"] (spLaw c) := by
  have hK := L.hK
  refine fnAny F sc_law (fun vs H Q E h => ?_) fun A outer s H E hr => ⟨tLawB c b_law, pss_cons (ps_set (i := 1) sc_law.nd rfl (by first | exact .inl rfl | exact .inr rfl | exact .inr (.inl rfl) | exact .inr (.inr rfl)) (by exact C8.pe_c c__law_box hr (by omega) (by rfl) (by exact pa_cons (pv 0) pa_nil))) ?_, fun vs Q h => law_ok (m := 13) rfl hf h⟩
  · obtain ⟨a, ns, rfl, _⟩ := h
    rfl
  · delta b_law
    exact ds_cons (ds_set (i := 2) sc_law.nd (de_call c__law_network hr (by omega) (by rfl) (da_cons (do_pk (i := 1)) (da_cons (do_val (de_op (o_add hK) (do_val (de_int)) (do_val (de_call c__law_draw hr (by omega) (by rfl) (da_cons (do_pk (i := 1)) (da_cons (do_val (de_int)) (da_nil))))))) (da_cons (do_val (de_call c__law_draw hr (by omega) (by rfl) (da_cons (do_pk (i := 1)) (da_cons (do_val (de_int)) (da_nil))))) (da_nil)))))) (
    ds_cons (ds_asg (de_var (i := 2)) (dg_tup hK rfl (dgs_cons (dg_name (i := 3) sc_law.nd) (dgs_cons (dg_name (i := 4) sc_law.nd) (dgs_nil))))) (
    ds_cons (ds_if (dt_w (dw_or (dt_cmp (o_ne (hu hr) hK) (do_val (de_tup (da_cons (do_val (de_glob (d := k_MAX_ROOM) (by rfl) L.g_MAX_ROOM)) (da_cons (do_val (de_glob (d := k_MAX_COST) (by rfl) L.g_MAX_COST)) (da_cons (do_val (de_glob (d := k_MAX_OFFICES) (by rfl) L.g_MAX_OFFICES)) (da_cons (do_val (de_glob (d := k_MAX_VANS) (by rfl) L.g_MAX_VANS)) (da_cons (do_val (de_glob (d := k_MAX_LOAD) (by rfl) L.g_MAX_LOAD)) (da_nil)))))))) (do_val (de_tup (da_cons (do_val (de_int)) (da_cons (do_val (de_int)) (da_cons (do_val (de_int)) (da_cons (do_val (de_int)) (da_cons (do_val (de_int)) (da_nil))))))))) (dw_or1 (dt_not (dt_val (de_call0 c__law_great_fine hr (by omega) (by rfl))))))) (ds_one (ds_ret (de_bl))) (ds_nil)) (
    ds_cons (ds_if (dt_w (dw_or (dt_not (dt_val (de_call c__law_same hr (by omega) (by rfl) (da_cons (do_val (de_call c_is_network hr (by omega) (by rfl) (da_cons (do_val (de_var (i := 2))) (da_nil)))) (da_cons (do_val (de_bl)) (da_nil)))))) (dw_or1 (dt_not (dt_val (de_call c__law_same hr (by omega) (by rfl) (da_cons (do_val (de_call c_is_network hr (by omega) (by rfl) (da_cons (do_val (de_tup (da_cons (do_val (de_tup (da_nil))) (da_cons (do_val (de_tup (da_nil))) (da_nil))))) (da_nil)))) (da_cons (do_val (de_bl)) (da_nil))))))))) (ds_one (ds_ret (de_bl))) (ds_nil)) (
    ds_cons (ds_if (dt_w (dw_and (dt_cmp (o_ne (hu hr) hK) (do_pk (i := 4)) (do_val (de_tup (da_nil)))) (dw_and1 (dt_not (dt_val (de_call c__law_near_fine hr (by omega) (by rfl) (da_cons (do_val (de_var (i := 2))) (da_cons (do_val (de_call c__law_draw hr (by omega) (by rfl) (da_cons (do_pk (i := 1)) (da_cons (do_val (de_callB (c_len hK) (by rfl) L.z_len bt_len (da_cons (do_pk (i := 4)) (da_nil)))) (da_nil))))) (da_nil))))))))) (ds_one (ds_ret (de_bl))) (ds_nil)) (
    ds_cons (ds_for PassesOwn.never rfl (di_rng1 (by rfl) L.z_range (da_cons (do_val (de_int)) (da_nil))) (dg_name (i := 5) sc_law.nd) (ds_cons (ds_set (i := 6) sc_law.nd (de_call c__law_bent hr (by omega) (by rfl) (da_cons (do_pk (i := 1)) (da_cons (do_val (de_var (i := 2))) (da_nil))))) (
    ds_one (ds_if (dt_not (dt_val (de_call c__law_same hr (by omega) (by rfl) (da_cons (do_val (de_call c_is_network hr (by omega) (by rfl) (da_cons (do_val (de_var (i := 6))) (da_nil)))) (da_cons (do_val (de_call c__law_network_due hr (by omega) (by rfl) (da_cons (do_val (de_var (i := 6))) (da_nil)))) (da_nil)))))) (ds_one (ds_ret (de_bl))) (ds_nil))))) (
    ds_cons (ds_set (i := 7) sc_law.nd (de_callTy (c_tupOf hK) (by rfl) L.z_tuple bt_tuple (da_cons (do_val (de_lc (n := 15) (own := [("van", 8)]) rfl sc_law.nd (di_seq hK (de_var (i := 4))) (blkOk_by (N := ["script", "box", "network", "names", "vans", "turn", "other", "plan", "van", "load", "wrong", "second", "k", "some", "due"]) (sc := C8.fnScope s_law) (by decide +kernel)) (fun _ _ _ _ _ => dg_name (i := 8) sc_law.nd) (fun _ _ _ _ _ => dts_nil) (fun _ _ _ _ _ => de_call c__law_draw hr (by omega) (by rfl) (da_cons (do_pk (i := 1)) (da_cons (do_val (de_op (o_add hK) (do_val (de_ix hK (do_pk (i := 8)) (do_val (de_int)))) (do_val (de_int)))) (da_nil)))))) (da_nil)))) (
    ds_cons (ds_set (i := 9) sc_law.nd (de_call c__law_gone hr (by omega) (by rfl) (da_cons (do_val (de_var (i := 2))) (da_cons (do_val (de_var (i := 7))) (da_nil))))) (
    ds_cons (ds_if (dt_w (dw_or (dt_not (dt_val (de_call c__law_same hr (by omega) (by rfl) (da_cons (do_val (de_call c_is_load hr (by omega) (by rfl) (da_cons (do_val (de_var (i := 2))) (da_cons (do_val (de_var (i := 9))) (da_nil))))) (da_cons (do_val (de_bl)) (da_nil)))))) (dw_or1 (dt_not (dt_val (de_call c__law_same hr (by omega) (by rfl) (da_cons (do_val (de_call c_is_plan hr (by omega) (by rfl) (da_cons (do_val (de_var (i := 2))) (da_cons (do_val (de_var (i := 9))) (da_cons (do_val (de_var (i := 7))) (da_nil)))))) (da_cons (do_val (de_bl)) (da_nil))))))))) (ds_one (ds_ret (de_bl))) (ds_nil)) (
    ds_cons (ds_for PassesOwn.never rfl (di_rng1 (by rfl) L.z_range (da_cons (do_val (de_int)) (da_nil))) (dg_name (i := 5) sc_law.nd) (ds_cons (ds_par2 (i := 6) (j := 10) sc_law.nd (da_cons (do_val (de_call c__law_bent hr (by omega) (by rfl) (da_cons (do_pk (i := 1)) (da_cons (do_val (de_var (i := 9))) (da_nil))))) (da_cons (do_val (de_call c__law_bent hr (by omega) (by rfl) (da_cons (do_pk (i := 1)) (da_cons (do_val (de_var (i := 7))) (da_nil))))) (da_nil)))) (
    ds_cons (ds_if (dt_not (dt_val (de_call c__law_same hr (by omega) (by rfl) (da_cons (do_val (de_call c_is_load hr (by omega) (by rfl) (da_cons (do_val (de_var (i := 2))) (da_cons (do_val (de_var (i := 6))) (da_nil))))) (da_cons (do_val (de_call c__law_load_due hr (by omega) (by rfl) (da_cons (do_val (de_var (i := 2))) (da_cons (do_val (de_var (i := 6))) (da_nil))))) (da_nil)))))) (ds_one (ds_ret (de_bl))) (ds_nil)) (
    ds_one (ds_if (dt_not (dt_val (de_call c__law_same hr (by omega) (by rfl) (da_cons (do_val (de_call c_is_plan hr (by omega) (by rfl) (da_cons (do_val (de_var (i := 2))) (da_cons (do_val (de_var (i := 9))) (da_cons (do_val (de_var (i := 10))) (da_nil)))))) (da_cons (do_val (de_call c__law_plan_due hr (by omega) (by rfl) (da_cons (do_val (de_var (i := 2))) (da_cons (do_val (de_var (i := 9))) (da_cons (do_val (de_var (i := 10))) (da_nil)))))) (da_nil)))))) (ds_one (ds_ret (de_bl))) (ds_nil)))))) (
    ds_cons (ds_set (i := 11) sc_law.nd (de_callTy (c_tupOf hK) (by rfl) L.z_tuple bt_tuple (da_cons (do_val (de_lc (n := 15) (own := [("van", 8)]) rfl sc_law.nd (di_seq hK (de_var (i := 4))) (blkOk_by (N := ["script", "box", "network", "names", "vans", "turn", "other", "plan", "van", "load", "wrong", "second", "k", "some", "due"]) (sc := C8.fnScope s_law) (by decide +kernel)) (fun _ _ _ _ _ => dg_name (i := 8) sc_law.nd) (fun _ _ _ _ _ => dts_nil) (fun _ _ _ _ _ => de_call c__law_draw hr (by omega) (by rfl) (da_cons (do_pk (i := 1)) (da_cons (do_val (de_op (o_add hK) (do_val (de_ix hK (do_pk (i := 8)) (do_val (de_int)))) (do_val (de_int)))) (da_nil)))))) (da_nil)))) (
    ds_cons (ds_if (dt_not (dt_val (de_call c__law_same hr (by omega) (by rfl) (da_cons (do_val (de_call c_is_plan hr (by omega) (by rfl) (da_cons (do_val (de_var (i := 2))) (da_cons (do_val (de_var (i := 9))) (da_cons (do_val (de_var (i := 11))) (da_nil)))))) (da_cons (do_val (de_cmp (o_eq (hu hr) hK) (do_val (de_call c__law_gone hr (by omega) (by rfl) (da_cons (do_val (de_var (i := 2))) (da_cons (do_val (de_var (i := 11))) (da_nil))))) (do_pk (i := 9)))) (da_nil)))))) (ds_one (ds_ret (de_bl))) (ds_nil)) (
    ds_cons (ds_if (dt_not (dt_val (de_call c__law_same hr (by omega) (by rfl) (da_cons (do_val (de_call c_cost_of hr (by omega) (by rfl) (da_cons (do_val (de_var (i := 2))) (da_cons (do_val (de_var (i := 7))) (da_nil))))) (da_cons (do_val (de_callB (c_sumT hK rfl) (by rfl) L.z_sum bt_sum (da_cons (do_val (de_lc (n := 15) (own := [("k", 12)]) rfl sc_law.nd (di_rng1 (by rfl) L.z_range (da_cons (do_val (de_callB (c_len hK) (by rfl) L.z_len bt_len (da_cons (do_pk (i := 4)) (da_nil)))) (da_nil))) (blkOk_by (N := ["script", "box", "network", "names", "vans", "turn", "other", "plan", "van", "load", "wrong", "second", "k", "some", "due"]) (sc := C8.fnScope s_law) (by decide +kernel)) (fun _ _ _ _ _ => dg_name (i := 12) sc_law.nd) (fun _ _ _ _ _ => dts_nil) (fun _ _ _ _ _ => de_op (o_mul) (do_val (de_ix hK (do_val (de_ix hK (do_pk (i := 4)) (do_pk (i := 12)))) (do_val (de_int)))) (do_val (de_ix hK (do_pk (i := 7)) (do_pk (i := 12))))))) (da_nil)))) (da_nil)))))) (ds_one (ds_ret (de_bl))) (ds_nil)) (
    ds_cons (ds_set (i := 13) sc_law.nd (de_callTy (c_tupOf hK) (by rfl) L.z_tuple bt_tuple (da_cons (do_val (de_lc (n := 15) (own := [("k", 12)]) rfl sc_law.nd (di_rng1 (by rfl) L.z_range (da_cons (do_val (de_callB (c_len hK) (by rfl) L.z_len bt_len (da_cons (do_pk (i := 3)) (da_nil)))) (da_nil))) (blkOk_by (N := ["script", "box", "network", "names", "vans", "turn", "other", "plan", "van", "load", "wrong", "second", "k", "some", "due"]) (sc := C8.fnScope s_law) (by decide +kernel)) (fun _ _ _ _ _ => dg_name (i := 12) sc_law.nd) (fun _ _ _ _ _ => dts_one (dt_cmp (o_eq (hu hr) hK) (do_val (de_call c__law_draw hr (by omega) (by rfl) (da_cons (do_pk (i := 1)) (da_cons (do_val (de_int)) (da_nil))))) (do_val (de_int)))) (fun _ _ _ _ _ => de_var (i := 12)))) (da_nil)))) (
    ds_cons (ds_set (i := 14) sc_law.nd (de_callB (c_sumT hK rfl) (by rfl) L.z_sum bt_sum (da_cons (do_val (de_lc (n := 15) (own := [("van", 8)]) rfl sc_law.nd (di_seq hK (de_var (i := 4))) (blkOk_by (N := ["script", "box", "network", "names", "vans", "turn", "other", "plan", "van", "load", "wrong", "second", "k", "some", "due"]) (sc := C8.fnScope s_law) (by decide +kernel)) (fun _ _ _ _ _ => dg_name (i := 8) sc_law.nd) (fun _ _ _ _ _ => dts_one (dt_w (dw_and (dt_cmp (o_in (hu1 hr) hK) (do_val (de_mvT hK PySem.F.plainAttrs_tuple PySem.F.slot_tuple_index PySem.F.type_tuple_index (m_indexT hK) (do_pk (i := 3)) (da_cons (do_val (de_ix hK (do_pk (i := 8)) (do_val (de_int)))) (da_nil)))) (do_pk (i := 13))) (dw_and1 (dt_cmp (o_notin (hu1 hr) hK) (do_val (de_mvT hK PySem.F.plainAttrs_tuple PySem.F.slot_tuple_index PySem.F.type_tuple_index (m_indexT hK) (do_pk (i := 3)) (da_cons (do_val (de_ix hK (do_pk (i := 8)) (do_val (de_int)))) (da_nil)))) (do_pk (i := 13))))))) (fun _ _ _ _ _ => de_ix hK (do_pk (i := 8)) (do_val (de_int))))) (da_nil)))) (
    ds_one (ds_ret (de_call c__law_same hr (by omega) (by rfl) (da_cons (do_val (de_call c_room_out hr (by omega) (by rfl) (da_cons (do_val (de_var (i := 2))) (da_cons (do_val (de_var (i := 13))) (da_nil))))) (da_cons (do_val (de_var (i := 14))) (da_nil))))))))))))))))))))
end Yk53
set_option maxRecDepth 100000
set_option maxHeartbeats 4000000
namespace Yk53
open PySem PySem.Spec PyProof.Rows L2 O C53
theorem all_mk {l : PySem.W.OpenLaw} {w : World} {K : PySem.W.Frag} {h : Heap} {mg : Str → Option Value} {fa : Addr} {q : Program} (X : K.In h) (G : h.Ns mainGlobals mg) (hfa : mg "law" = some (.ref fa)) (TT : TabsOf q K mg h)
    {f_is_name cd_is_name : Addr} {oc_is_name kV_is_name dc_is_name pm_is_name ct_is_name : Value} {od_is_name an_is_name : Option Addr} {sl_is_name : Array (Option Value)}
    {f_is_number cd_is_number : Addr} {oc_is_number kV_is_number dc_is_number pm_is_number ct_is_number : Value} {od_is_number an_is_number : Option Addr} {sl_is_number : Array (Option Value)}
    {f_is_ascending cd_is_ascending : Addr} {oc_is_ascending kV_is_ascending dc_is_ascending pm_is_ascending ct_is_ascending : Value} {od_is_ascending an_is_ascending : Option Addr} {sl_is_ascending : Array (Option Value)}
    {f_is_van cd_is_van : Addr} {oc_is_van kV_is_van dc_is_van pm_is_van ct_is_van : Value} {od_is_van an_is_van : Option Addr} {sl_is_van : Array (Option Value)}
    {f_is_network cd_is_network : Addr} {oc_is_network kV_is_network dc_is_network pm_is_network ct_is_network : Value} {od_is_network an_is_network : Option Addr} {sl_is_network : Array (Option Value)}
    {f_numbered cd_numbered : Addr} {oc_numbered kV_numbered dc_numbered pm_numbered ct_numbered : Value} {od_numbered an_numbered : Option Addr} {sl_numbered : Array (Option Value)}
    {f_is_load cd_is_load : Addr} {oc_is_load kV_is_load dc_is_load pm_is_load ct_is_load : Value} {od_is_load an_is_load : Option Addr} {sl_is_load : Array (Option Value)}
    {f_gone cd_gone : Addr} {oc_gone kV_gone dc_gone pm_gone ct_gone : Value} {od_gone an_gone : Option Addr} {sl_gone : Array (Option Value)}
    {f_is_plan cd_is_plan : Addr} {oc_is_plan kV_is_plan dc_is_plan pm_is_plan ct_is_plan : Value} {od_is_plan an_is_plan : Option Addr} {sl_is_plan : Array (Option Value)}
    {f_cost_of cd_cost_of : Addr} {oc_cost_of kV_cost_of dc_cost_of pm_cost_of ct_cost_of : Value} {od_cost_of an_cost_of : Option Addr} {sl_cost_of : Array (Option Value)}
    {f_room_out cd_room_out : Addr} {oc_room_out kV_room_out dc_room_out pm_room_out ct_room_out : Value} {od_room_out an_room_out : Option Addr} {sl_room_out : Array (Option Value)}
    {f__law_box cd__law_box : Addr} {oc__law_box kV__law_box dc__law_box pm__law_box ct__law_box : Value} {od__law_box an__law_box : Option Addr} {sl__law_box : Array (Option Value)}
    {f__law_load cd__law_load : Addr} {oc__law_load kV__law_load dc__law_load pm__law_load ct__law_load : Value} {od__law_load an__law_load : Option Addr} {sl__law_load : Array (Option Value)}
    {f__law_draw cd__law_draw : Addr} {oc__law_draw kV__law_draw dc__law_draw pm__law_draw ct__law_draw : Value} {od__law_draw an__law_draw : Option Addr} {sl__law_draw : Array (Option Value)}
    {f__law_same cd__law_same : Addr} {oc__law_same kV__law_same dc__law_same pm__law_same ct__law_same : Value} {od__law_same an__law_same : Option Addr} {sl__law_same : Array (Option Value)}
    {f__law_names cd__law_names : Addr} {oc__law_names kV__law_names dc__law_names pm__law_names ct__law_names : Value} {od__law_names an__law_names : Option Addr} {sl__law_names : Array (Option Value)}
    {f__law_bent cd__law_bent : Addr} {oc__law_bent kV__law_bent dc__law_bent pm__law_bent ct__law_bent : Value} {od__law_bent an__law_bent : Option Addr} {sl__law_bent : Array (Option Value)}
    {f__law_whole cd__law_whole : Addr} {oc__law_whole kV__law_whole dc__law_whole pm__law_whole ct__law_whole : Value} {od__law_whole an__law_whole : Option Addr} {sl__law_whole : Array (Option Value)}
    {f__law_is_name cd__law_is_name : Addr} {oc__law_is_name kV__law_is_name dc__law_is_name pm__law_is_name ct__law_is_name : Value} {od__law_is_name an__law_is_name : Option Addr} {sl__law_is_name : Array (Option Value)}
    {f__law_is_van cd__law_is_van : Addr} {oc__law_is_van kV__law_is_van dc__law_is_van pm__law_is_van ct__law_is_van : Value} {od__law_is_van an__law_is_van : Option Addr} {sl__law_is_van : Array (Option Value)}
    {f__law_network_due cd__law_network_due : Addr} {oc__law_network_due kV__law_network_due dc__law_network_due pm__law_network_due ct__law_network_due : Value} {od__law_network_due an__law_network_due : Option Addr} {sl__law_network_due : Array (Option Value)}
    {f__law_gone cd__law_gone : Addr} {oc__law_gone kV__law_gone dc__law_gone pm__law_gone ct__law_gone : Value} {od__law_gone an__law_gone : Option Addr} {sl__law_gone : Array (Option Value)}
    {f__law_load_due cd__law_load_due : Addr} {oc__law_load_due kV__law_load_due dc__law_load_due pm__law_load_due ct__law_load_due : Value} {od__law_load_due an__law_load_due : Option Addr} {sl__law_load_due : Array (Option Value)}
    {f__law_plan_due cd__law_plan_due : Addr} {oc__law_plan_due kV__law_plan_due dc__law_plan_due pm__law_plan_due ct__law_plan_due : Value} {od__law_plan_due an__law_plan_due : Option Addr} {sl__law_plan_due : Array (Option Value)}
    {f__law_network cd__law_network : Addr} {oc__law_network kV__law_network dc__law_network pm__law_network ct__law_network : Value} {od__law_network an__law_network : Option Addr} {sl__law_network : Array (Option Value)}
    {f__law_near_fine cd__law_near_fine : Addr} {oc__law_near_fine kV__law_near_fine dc__law_near_fine pm__law_near_fine ct__law_near_fine : Value} {od__law_near_fine an__law_near_fine : Option Addr} {sl__law_near_fine : Array (Option Value)}
    {f__law_great_fine cd__law_great_fine : Addr} {oc__law_great_fine kV__law_great_fine dc__law_great_fine pm__law_great_fine ct__law_great_fine : Value} {od__law_great_fine an__law_great_fine : Option Addr} {sl__law_great_fine : Array (Option Value)}
    {f_law cd_law : Addr} {oc_law kV_law dc_law pm_law ct_law : Value} {od_law an_law : Option Addr} {sl_law : Array (Option Value)}
    {T_is_name : Addr} {e_is_name : Value} {dd_is_name : Option Addr} {vs_is_name : Array Value} {sx_is_name : Array (Option Value)}
    {T_is_ascending : Addr} {e_is_ascending : Value} {dd_is_ascending : Option Addr} {vs_is_ascending : Array Value} {sx_is_ascending : Array (Option Value)}
    {T_is_network : Addr} {e_is_network : Value} {dd_is_network : Option Addr} {vs_is_network : Array Value} {sx_is_network : Array (Option Value)}
    {T_is_load : Addr} {e_is_load : Value} {dd_is_load : Option Addr} {vs_is_load : Array Value} {sx_is_load : Array (Option Value)}
    {T_is_plan : Addr} {e_is_plan : Value} {dd_is_plan : Option Addr} {vs_is_plan : Array Value} {sx_is_plan : Array (Option Value)}
    {T_cost_of : Addr} {e_cost_of : Value} {dd_cost_of : Option Addr} {vs_cost_of : Array Value} {sx_cost_of : Array (Option Value)}
    {T_room_out : Addr} {e_room_out : Value} {dd_room_out : Option Addr} {vs_room_out : Array Value} {sx_room_out : Array (Option Value)}
    {v_DIGITS : Value}
    {v_MAX_COST : Value}
    {v_MAX_LOAD : Value}
    {v_MAX_OFFICES : Value}
    {v_MAX_ROOM : Value}
    {v_MAX_VANS : Value}
    {v_RESERVED : Value}
    {v_SMALL : Value}
    (a_is_name : PySem.W.nsIn K mainGlobals "is_name" = some (some (.ref f_is_name))) (l_is_name : K.lookup f_is_name = some ⟨oc_is_name, od_is_name, .func (PySem.W.fnOf "is_name" "is_name" (C8.fnArgs s_is_name) (C8.fnBody s_is_name) (C8.fnScope s_is_name) .none kV_is_name dc_is_name pm_is_name an_is_name (.ref cd_is_name) ct_is_name), sl_is_name⟩) (c_is_name : PySem.W.codeIn K (.ref cd_is_name) "is_name" = true) (k_is_name : PySem.W.keepIn K (.ref f_is_name) = true)
    (a_is_number : PySem.W.nsIn K mainGlobals "is_number" = some (some (.ref f_is_number))) (l_is_number : K.lookup f_is_number = some ⟨oc_is_number, od_is_number, .func (PySem.W.fnOf "is_number" "is_number" (C8.fnArgs s_is_number) (C8.fnBody s_is_number) (C8.fnScope s_is_number) .none kV_is_number dc_is_number pm_is_number an_is_number (.ref cd_is_number) ct_is_number), sl_is_number⟩) (c_is_number : PySem.W.codeIn K (.ref cd_is_number) "is_number" = true) (k_is_number : PySem.W.keepIn K (.ref f_is_number) = true)
    (a_is_ascending : PySem.W.nsIn K mainGlobals "is_ascending" = some (some (.ref f_is_ascending))) (l_is_ascending : K.lookup f_is_ascending = some ⟨oc_is_ascending, od_is_ascending, .func (PySem.W.fnOf "is_ascending" "is_ascending" (C8.fnArgs s_is_ascending) (C8.fnBody s_is_ascending) (C8.fnScope s_is_ascending) .none kV_is_ascending dc_is_ascending pm_is_ascending an_is_ascending (.ref cd_is_ascending) ct_is_ascending), sl_is_ascending⟩) (c_is_ascending : PySem.W.codeIn K (.ref cd_is_ascending) "is_ascending" = true) (k_is_ascending : PySem.W.keepIn K (.ref f_is_ascending) = true)
    (a_is_van : PySem.W.nsIn K mainGlobals "is_van" = some (some (.ref f_is_van))) (l_is_van : K.lookup f_is_van = some ⟨oc_is_van, od_is_van, .func (PySem.W.fnOf "is_van" "is_van" (C8.fnArgs s_is_van) (C8.fnBody s_is_van) (C8.fnScope s_is_van) .none kV_is_van dc_is_van pm_is_van an_is_van (.ref cd_is_van) ct_is_van), sl_is_van⟩) (c_is_van : PySem.W.codeIn K (.ref cd_is_van) "is_van" = true) (k_is_van : PySem.W.keepIn K (.ref f_is_van) = true)
    (a_is_network : PySem.W.nsIn K mainGlobals "is_network" = some (some (.ref f_is_network))) (l_is_network : K.lookup f_is_network = some ⟨oc_is_network, od_is_network, .func (PySem.W.fnOf "is_network" "is_network" (C8.fnArgs s_is_network) (C8.fnBody s_is_network) (C8.fnScope s_is_network) .none kV_is_network dc_is_network pm_is_network an_is_network (.ref cd_is_network) ct_is_network), sl_is_network⟩) (c_is_network : PySem.W.codeIn K (.ref cd_is_network) "is_network" = true) (k_is_network : PySem.W.keepIn K (.ref f_is_network) = true)
    (a_numbered : PySem.W.nsIn K mainGlobals "numbered" = some (some (.ref f_numbered))) (l_numbered : K.lookup f_numbered = some ⟨oc_numbered, od_numbered, .func (PySem.W.fnOf "numbered" "numbered" (C8.fnArgs s_numbered) (C8.fnBody s_numbered) (C8.fnScope s_numbered) .none kV_numbered dc_numbered pm_numbered an_numbered (.ref cd_numbered) ct_numbered), sl_numbered⟩) (c_numbered : PySem.W.codeIn K (.ref cd_numbered) "numbered" = true) (k_numbered : PySem.W.keepIn K (.ref f_numbered) = true)
    (a_is_load : PySem.W.nsIn K mainGlobals "is_load" = some (some (.ref f_is_load))) (l_is_load : K.lookup f_is_load = some ⟨oc_is_load, od_is_load, .func (PySem.W.fnOf "is_load" "is_load" (C8.fnArgs s_is_load) (C8.fnBody s_is_load) (C8.fnScope s_is_load) .none kV_is_load dc_is_load pm_is_load an_is_load (.ref cd_is_load) ct_is_load), sl_is_load⟩) (c_is_load : PySem.W.codeIn K (.ref cd_is_load) "is_load" = true) (k_is_load : PySem.W.keepIn K (.ref f_is_load) = true)
    (a_gone : PySem.W.nsIn K mainGlobals "gone" = some (some (.ref f_gone))) (l_gone : K.lookup f_gone = some ⟨oc_gone, od_gone, .func (PySem.W.fnOf "gone" "gone" (C8.fnArgs s_gone) (C8.fnBody s_gone) (C8.fnScope s_gone) .none kV_gone dc_gone pm_gone an_gone (.ref cd_gone) ct_gone), sl_gone⟩) (c_gone : PySem.W.codeIn K (.ref cd_gone) "gone" = true) (k_gone : PySem.W.keepIn K (.ref f_gone) = true)
    (a_is_plan : PySem.W.nsIn K mainGlobals "is_plan" = some (some (.ref f_is_plan))) (l_is_plan : K.lookup f_is_plan = some ⟨oc_is_plan, od_is_plan, .func (PySem.W.fnOf "is_plan" "is_plan" (C8.fnArgs s_is_plan) (C8.fnBody s_is_plan) (C8.fnScope s_is_plan) .none kV_is_plan dc_is_plan pm_is_plan an_is_plan (.ref cd_is_plan) ct_is_plan), sl_is_plan⟩) (c_is_plan : PySem.W.codeIn K (.ref cd_is_plan) "is_plan" = true) (k_is_plan : PySem.W.keepIn K (.ref f_is_plan) = true)
    (a_cost_of : PySem.W.nsIn K mainGlobals "cost_of" = some (some (.ref f_cost_of))) (l_cost_of : K.lookup f_cost_of = some ⟨oc_cost_of, od_cost_of, .func (PySem.W.fnOf "cost_of" "cost_of" (C8.fnArgs s_cost_of) (C8.fnBody s_cost_of) (C8.fnScope s_cost_of) .none kV_cost_of dc_cost_of pm_cost_of an_cost_of (.ref cd_cost_of) ct_cost_of), sl_cost_of⟩) (c_cost_of : PySem.W.codeIn K (.ref cd_cost_of) "cost_of" = true) (k_cost_of : PySem.W.keepIn K (.ref f_cost_of) = true)
    (a_room_out : PySem.W.nsIn K mainGlobals "room_out" = some (some (.ref f_room_out))) (l_room_out : K.lookup f_room_out = some ⟨oc_room_out, od_room_out, .func (PySem.W.fnOf "room_out" "room_out" (C8.fnArgs s_room_out) (C8.fnBody s_room_out) (C8.fnScope s_room_out) .none kV_room_out dc_room_out pm_room_out an_room_out (.ref cd_room_out) ct_room_out), sl_room_out⟩) (c_room_out : PySem.W.codeIn K (.ref cd_room_out) "room_out" = true) (k_room_out : PySem.W.keepIn K (.ref f_room_out) = true)
    (a__law_box : PySem.W.nsIn K mainGlobals "_law_box" = some (some (.ref f__law_box))) (l__law_box : K.lookup f__law_box = some ⟨oc__law_box, od__law_box, .func (PySem.W.fnOf "_law_box" "_law_box" (C8.fnArgs s__law_box) (C8.fnBody s__law_box) (C8.fnScope s__law_box) .none kV__law_box dc__law_box pm__law_box an__law_box (.ref cd__law_box) ct__law_box), sl__law_box⟩) (c__law_box : PySem.W.codeIn K (.ref cd__law_box) "_law_box" = true) (k__law_box : PySem.W.keepIn K (.ref f__law_box) = true)
    (a__law_load : PySem.W.nsIn K mainGlobals "_law_load" = some (some (.ref f__law_load))) (l__law_load : K.lookup f__law_load = some ⟨oc__law_load, od__law_load, .func (PySem.W.fnOf "_law_load" "_law_load" (C8.fnArgs s__law_load) (C8.fnBody s__law_load) (C8.fnScope s__law_load) .none kV__law_load dc__law_load pm__law_load an__law_load (.ref cd__law_load) ct__law_load), sl__law_load⟩) (c__law_load : PySem.W.codeIn K (.ref cd__law_load) "_law_load" = true) (k__law_load : PySem.W.keepIn K (.ref f__law_load) = true)
    (a__law_draw : PySem.W.nsIn K mainGlobals "_law_draw" = some (some (.ref f__law_draw))) (l__law_draw : K.lookup f__law_draw = some ⟨oc__law_draw, od__law_draw, .func (PySem.W.fnOf "_law_draw" "_law_draw" (C8.fnArgs s__law_draw) (C8.fnBody s__law_draw) (C8.fnScope s__law_draw) .none kV__law_draw dc__law_draw pm__law_draw an__law_draw (.ref cd__law_draw) ct__law_draw), sl__law_draw⟩) (c__law_draw : PySem.W.codeIn K (.ref cd__law_draw) "_law_draw" = true) (k__law_draw : PySem.W.keepIn K (.ref f__law_draw) = true)
    (a__law_same : PySem.W.nsIn K mainGlobals "_law_same" = some (some (.ref f__law_same))) (l__law_same : K.lookup f__law_same = some ⟨oc__law_same, od__law_same, .func (PySem.W.fnOf "_law_same" "_law_same" (C8.fnArgs s__law_same) (C8.fnBody s__law_same) (C8.fnScope s__law_same) .none kV__law_same dc__law_same pm__law_same an__law_same (.ref cd__law_same) ct__law_same), sl__law_same⟩) (c__law_same : PySem.W.codeIn K (.ref cd__law_same) "_law_same" = true) (k__law_same : PySem.W.keepIn K (.ref f__law_same) = true)
    (a__law_names : PySem.W.nsIn K mainGlobals "_law_names" = some (some (.ref f__law_names))) (l__law_names : K.lookup f__law_names = some ⟨oc__law_names, od__law_names, .func (PySem.W.fnOf "_law_names" "_law_names" (C8.fnArgs s__law_names) (C8.fnBody s__law_names) (C8.fnScope s__law_names) .none kV__law_names dc__law_names pm__law_names an__law_names (.ref cd__law_names) ct__law_names), sl__law_names⟩) (c__law_names : PySem.W.codeIn K (.ref cd__law_names) "_law_names" = true) (k__law_names : PySem.W.keepIn K (.ref f__law_names) = true)
    (a__law_bent : PySem.W.nsIn K mainGlobals "_law_bent" = some (some (.ref f__law_bent))) (l__law_bent : K.lookup f__law_bent = some ⟨oc__law_bent, od__law_bent, .func (PySem.W.fnOf "_law_bent" "_law_bent" (C8.fnArgs s__law_bent) (C8.fnBody s__law_bent) (C8.fnScope s__law_bent) .none kV__law_bent dc__law_bent pm__law_bent an__law_bent (.ref cd__law_bent) ct__law_bent), sl__law_bent⟩) (c__law_bent : PySem.W.codeIn K (.ref cd__law_bent) "_law_bent" = true) (k__law_bent : PySem.W.keepIn K (.ref f__law_bent) = true)
    (a__law_whole : PySem.W.nsIn K mainGlobals "_law_whole" = some (some (.ref f__law_whole))) (l__law_whole : K.lookup f__law_whole = some ⟨oc__law_whole, od__law_whole, .func (PySem.W.fnOf "_law_whole" "_law_whole" (C8.fnArgs s__law_whole) (C8.fnBody s__law_whole) (C8.fnScope s__law_whole) .none kV__law_whole dc__law_whole pm__law_whole an__law_whole (.ref cd__law_whole) ct__law_whole), sl__law_whole⟩) (c__law_whole : PySem.W.codeIn K (.ref cd__law_whole) "_law_whole" = true) (k__law_whole : PySem.W.keepIn K (.ref f__law_whole) = true)
    (a__law_is_name : PySem.W.nsIn K mainGlobals "_law_is_name" = some (some (.ref f__law_is_name))) (l__law_is_name : K.lookup f__law_is_name = some ⟨oc__law_is_name, od__law_is_name, .func (PySem.W.fnOf "_law_is_name" "_law_is_name" (C8.fnArgs s__law_is_name) (C8.fnBody s__law_is_name) (C8.fnScope s__law_is_name) .none kV__law_is_name dc__law_is_name pm__law_is_name an__law_is_name (.ref cd__law_is_name) ct__law_is_name), sl__law_is_name⟩) (c__law_is_name : PySem.W.codeIn K (.ref cd__law_is_name) "_law_is_name" = true) (k__law_is_name : PySem.W.keepIn K (.ref f__law_is_name) = true)
    (a__law_is_van : PySem.W.nsIn K mainGlobals "_law_is_van" = some (some (.ref f__law_is_van))) (l__law_is_van : K.lookup f__law_is_van = some ⟨oc__law_is_van, od__law_is_van, .func (PySem.W.fnOf "_law_is_van" "_law_is_van" (C8.fnArgs s__law_is_van) (C8.fnBody s__law_is_van) (C8.fnScope s__law_is_van) .none kV__law_is_van dc__law_is_van pm__law_is_van an__law_is_van (.ref cd__law_is_van) ct__law_is_van), sl__law_is_van⟩) (c__law_is_van : PySem.W.codeIn K (.ref cd__law_is_van) "_law_is_van" = true) (k__law_is_van : PySem.W.keepIn K (.ref f__law_is_van) = true)
    (a__law_network_due : PySem.W.nsIn K mainGlobals "_law_network_due" = some (some (.ref f__law_network_due))) (l__law_network_due : K.lookup f__law_network_due = some ⟨oc__law_network_due, od__law_network_due, .func (PySem.W.fnOf "_law_network_due" "_law_network_due" (C8.fnArgs s__law_network_due) (C8.fnBody s__law_network_due) (C8.fnScope s__law_network_due) .none kV__law_network_due dc__law_network_due pm__law_network_due an__law_network_due (.ref cd__law_network_due) ct__law_network_due), sl__law_network_due⟩) (c__law_network_due : PySem.W.codeIn K (.ref cd__law_network_due) "_law_network_due" = true) (k__law_network_due : PySem.W.keepIn K (.ref f__law_network_due) = true)
    (a__law_gone : PySem.W.nsIn K mainGlobals "_law_gone" = some (some (.ref f__law_gone))) (l__law_gone : K.lookup f__law_gone = some ⟨oc__law_gone, od__law_gone, .func (PySem.W.fnOf "_law_gone" "_law_gone" (C8.fnArgs s__law_gone) (C8.fnBody s__law_gone) (C8.fnScope s__law_gone) .none kV__law_gone dc__law_gone pm__law_gone an__law_gone (.ref cd__law_gone) ct__law_gone), sl__law_gone⟩) (c__law_gone : PySem.W.codeIn K (.ref cd__law_gone) "_law_gone" = true) (k__law_gone : PySem.W.keepIn K (.ref f__law_gone) = true)
    (a__law_load_due : PySem.W.nsIn K mainGlobals "_law_load_due" = some (some (.ref f__law_load_due))) (l__law_load_due : K.lookup f__law_load_due = some ⟨oc__law_load_due, od__law_load_due, .func (PySem.W.fnOf "_law_load_due" "_law_load_due" (C8.fnArgs s__law_load_due) (C8.fnBody s__law_load_due) (C8.fnScope s__law_load_due) .none kV__law_load_due dc__law_load_due pm__law_load_due an__law_load_due (.ref cd__law_load_due) ct__law_load_due), sl__law_load_due⟩) (c__law_load_due : PySem.W.codeIn K (.ref cd__law_load_due) "_law_load_due" = true) (k__law_load_due : PySem.W.keepIn K (.ref f__law_load_due) = true)
    (a__law_plan_due : PySem.W.nsIn K mainGlobals "_law_plan_due" = some (some (.ref f__law_plan_due))) (l__law_plan_due : K.lookup f__law_plan_due = some ⟨oc__law_plan_due, od__law_plan_due, .func (PySem.W.fnOf "_law_plan_due" "_law_plan_due" (C8.fnArgs s__law_plan_due) (C8.fnBody s__law_plan_due) (C8.fnScope s__law_plan_due) .none kV__law_plan_due dc__law_plan_due pm__law_plan_due an__law_plan_due (.ref cd__law_plan_due) ct__law_plan_due), sl__law_plan_due⟩) (c__law_plan_due : PySem.W.codeIn K (.ref cd__law_plan_due) "_law_plan_due" = true) (k__law_plan_due : PySem.W.keepIn K (.ref f__law_plan_due) = true)
    (a__law_network : PySem.W.nsIn K mainGlobals "_law_network" = some (some (.ref f__law_network))) (l__law_network : K.lookup f__law_network = some ⟨oc__law_network, od__law_network, .func (PySem.W.fnOf "_law_network" "_law_network" (C8.fnArgs s__law_network) (C8.fnBody s__law_network) (C8.fnScope s__law_network) .none kV__law_network dc__law_network pm__law_network an__law_network (.ref cd__law_network) ct__law_network), sl__law_network⟩) (c__law_network : PySem.W.codeIn K (.ref cd__law_network) "_law_network" = true) (k__law_network : PySem.W.keepIn K (.ref f__law_network) = true)
    (a__law_near_fine : PySem.W.nsIn K mainGlobals "_law_near_fine" = some (some (.ref f__law_near_fine))) (l__law_near_fine : K.lookup f__law_near_fine = some ⟨oc__law_near_fine, od__law_near_fine, .func (PySem.W.fnOf "_law_near_fine" "_law_near_fine" (C8.fnArgs s__law_near_fine) (C8.fnBody s__law_near_fine) (C8.fnScope s__law_near_fine) .none kV__law_near_fine dc__law_near_fine pm__law_near_fine an__law_near_fine (.ref cd__law_near_fine) ct__law_near_fine), sl__law_near_fine⟩) (c__law_near_fine : PySem.W.codeIn K (.ref cd__law_near_fine) "_law_near_fine" = true) (k__law_near_fine : PySem.W.keepIn K (.ref f__law_near_fine) = true)
    (a__law_great_fine : PySem.W.nsIn K mainGlobals "_law_great_fine" = some (some (.ref f__law_great_fine))) (l__law_great_fine : K.lookup f__law_great_fine = some ⟨oc__law_great_fine, od__law_great_fine, .func (PySem.W.fnOf "_law_great_fine" "_law_great_fine" (C8.fnArgs s__law_great_fine) (C8.fnBody s__law_great_fine) (C8.fnScope s__law_great_fine) .none kV__law_great_fine dc__law_great_fine pm__law_great_fine an__law_great_fine (.ref cd__law_great_fine) ct__law_great_fine), sl__law_great_fine⟩) (c__law_great_fine : PySem.W.codeIn K (.ref cd__law_great_fine) "_law_great_fine" = true) (k__law_great_fine : PySem.W.keepIn K (.ref f__law_great_fine) = true)
    (a_law : PySem.W.nsIn K mainGlobals "law" = some (some (.ref f_law))) (l_law : K.lookup f_law = some ⟨oc_law, od_law, .func (PySem.W.fnOf "law" "law" (C8.fnArgs s_law) (C8.fnBody s_law) (C8.fnScope s_law) .none kV_law dc_law pm_law an_law (.ref cd_law) ct_law), sl_law⟩) (c_law : PySem.W.codeIn K (.ref cd_law) "law" = true) (k_law : PySem.W.keepIn K (.ref f_law) = true)
    (w_is_name : K.lookup cd_is_name = some ⟨e_is_name, dd_is_name, .fields vs_is_name, sx_is_name⟩) (u_is_name : vs_is_name[11]? = some (.ref T_is_name)) (t_is_name : codeB K cd_is_name T_is_name = true) (n_is_name : K.lookup T_is_name = none) (r_is_name : ((recsOf q).any fun e => e.name == ("is_name" : Str)) = true)
    (w_is_ascending : K.lookup cd_is_ascending = some ⟨e_is_ascending, dd_is_ascending, .fields vs_is_ascending, sx_is_ascending⟩) (u_is_ascending : vs_is_ascending[11]? = some (.ref T_is_ascending)) (t_is_ascending : codeB K cd_is_ascending T_is_ascending = true) (n_is_ascending : K.lookup T_is_ascending = none) (r_is_ascending : ((recsOf q).any fun e => e.name == ("is_ascending" : Str)) = true)
    (w_is_network : K.lookup cd_is_network = some ⟨e_is_network, dd_is_network, .fields vs_is_network, sx_is_network⟩) (u_is_network : vs_is_network[11]? = some (.ref T_is_network)) (t_is_network : codeB K cd_is_network T_is_network = true) (n_is_network : K.lookup T_is_network = none) (r_is_network : ((recsOf q).any fun e => e.name == ("is_network" : Str)) = true)
    (w_is_load : K.lookup cd_is_load = some ⟨e_is_load, dd_is_load, .fields vs_is_load, sx_is_load⟩) (u_is_load : vs_is_load[11]? = some (.ref T_is_load)) (t_is_load : codeB K cd_is_load T_is_load = true) (n_is_load : K.lookup T_is_load = none) (r_is_load : ((recsOf q).any fun e => e.name == ("is_load" : Str)) = true)
    (w_is_plan : K.lookup cd_is_plan = some ⟨e_is_plan, dd_is_plan, .fields vs_is_plan, sx_is_plan⟩) (u_is_plan : vs_is_plan[11]? = some (.ref T_is_plan)) (t_is_plan : codeB K cd_is_plan T_is_plan = true) (n_is_plan : K.lookup T_is_plan = none) (r_is_plan : ((recsOf q).any fun e => e.name == ("is_plan" : Str)) = true)
    (w_cost_of : K.lookup cd_cost_of = some ⟨e_cost_of, dd_cost_of, .fields vs_cost_of, sx_cost_of⟩) (u_cost_of : vs_cost_of[11]? = some (.ref T_cost_of)) (t_cost_of : codeB K cd_cost_of T_cost_of = true) (n_cost_of : K.lookup T_cost_of = none) (r_cost_of : ((recsOf q).any fun e => e.name == ("cost_of" : Str)) = true)
    (w_room_out : K.lookup cd_room_out = some ⟨e_room_out, dd_room_out, .fields vs_room_out, sx_room_out⟩) (u_room_out : vs_room_out[11]? = some (.ref T_room_out)) (t_room_out : codeB K cd_room_out T_room_out = true) (n_room_out : K.lookup T_room_out = none) (r_room_out : ((recsOf q).any fun e => e.name == ("room_out" : Str)) = true)
    (z_all : PySem.W.nsIn K mainGlobals "all" = some none)
    (z_bool : PySem.W.nsIn K mainGlobals "bool" = some none)
    (z_enumerate : PySem.W.nsIn K mainGlobals "enumerate" = some none)
    (z_int : PySem.W.nsIn K mainGlobals "int" = some none)
    (z_isinstance : PySem.W.nsIn K mainGlobals "isinstance" = some none)
    (z_len : PySem.W.nsIn K mainGlobals "len" = some none)
    (z_list : PySem.W.nsIn K mainGlobals "list" = some none)
    (z_range : PySem.W.nsIn K mainGlobals "range" = some none)
    (z_set : PySem.W.nsIn K mainGlobals "set" = some none)
    (z_sorted : PySem.W.nsIn K mainGlobals "sorted" = some none)
    (z_str : PySem.W.nsIn K mainGlobals "str" = some none)
    (z_sum : PySem.W.nsIn K mainGlobals "sum" = some none)
    (z_tuple : PySem.W.nsIn K mainGlobals "tuple" = some none)
    (z_zip : PySem.W.nsIn K mainGlobals "zip" = some none)
    (g_DIGITS : PySem.W.nsIn K mainGlobals "DIGITS" = some (some v_DIGITS)) (d_DIGITS : dqB K 9 v_DIGITS k_DIGITS = true)
    (g_MAX_COST : PySem.W.nsIn K mainGlobals "MAX_COST" = some (some v_MAX_COST)) (d_MAX_COST : dqB K 9 v_MAX_COST k_MAX_COST = true)
    (g_MAX_LOAD : PySem.W.nsIn K mainGlobals "MAX_LOAD" = some (some v_MAX_LOAD)) (d_MAX_LOAD : dqB K 9 v_MAX_LOAD k_MAX_LOAD = true)
    (g_MAX_OFFICES : PySem.W.nsIn K mainGlobals "MAX_OFFICES" = some (some v_MAX_OFFICES)) (d_MAX_OFFICES : dqB K 9 v_MAX_OFFICES k_MAX_OFFICES = true)
    (g_MAX_ROOM : PySem.W.nsIn K mainGlobals "MAX_ROOM" = some (some v_MAX_ROOM)) (d_MAX_ROOM : dqB K 9 v_MAX_ROOM k_MAX_ROOM = true)
    (g_MAX_VANS : PySem.W.nsIn K mainGlobals "MAX_VANS" = some (some v_MAX_VANS)) (d_MAX_VANS : dqB K 9 v_MAX_VANS k_MAX_VANS = true)
    (g_RESERVED : PySem.W.nsIn K mainGlobals "RESERVED" = some (some v_RESERVED)) (d_RESERVED : dqB K 9 v_RESERVED k_RESERVED = true)
    (g_SMALL : PySem.W.nsIn K mainGlobals "SMALL" = some (some v_SMALL)) (d_SMALL : dqB K 9 v_SMALL k_SMALL = true)
    (hf : ∀ ns : List Int, ns.length ≤ 63 → runLaw 13 b_law ns = .ok (.sh, .bool true)) :
    LamX.LawAtS l w K C8.CX0 12 63 "script" mg fa h := by
  have e := hfa.symm.trans (PySem.W.mg_of X G a_law)
  cases e
  have F_is_name : DefC K mg "is_name" s_is_name f_is_name _ cd_is_name := ⟨⟨_, _, _, _, _, _, _, _, _, rfl, l_is_name, c_is_name⟩, PySem.W.mg_of X G a_is_name, k_is_name⟩
  have b_is_name := F_is_name.binds (ps := ["value"]) rfl fun _ _ _ _ _ _ us hl => match us, hl with | [_], _ => rfl
  have F_is_number : DefC K mg "is_number" s_is_number f_is_number _ cd_is_number := ⟨⟨_, _, _, _, _, _, _, _, _, rfl, l_is_number, c_is_number⟩, PySem.W.mg_of X G a_is_number, k_is_number⟩
  have b_is_number := F_is_number.binds (ps := ["value", "least", "most"]) rfl fun _ _ _ _ _ _ us hl => match us, hl with | [_, _, _], _ => rfl
  have F_is_ascending : DefC K mg "is_ascending" s_is_ascending f_is_ascending _ cd_is_ascending := ⟨⟨_, _, _, _, _, _, _, _, _, rfl, l_is_ascending, c_is_ascending⟩, PySem.W.mg_of X G a_is_ascending, k_is_ascending⟩
  have b_is_ascending := F_is_ascending.binds (ps := ["rows"]) rfl fun _ _ _ _ _ _ us hl => match us, hl with | [_], _ => rfl
  have F_is_van : DefC K mg "is_van" s_is_van f_is_van _ cd_is_van := ⟨⟨_, _, _, _, _, _, _, _, _, rfl, l_is_van, c_is_van⟩, PySem.W.mg_of X G a_is_van, k_is_van⟩
  have b_is_van := F_is_van.binds (ps := ["offices", "value"]) rfl fun _ _ _ _ _ _ us hl => match us, hl with | [_, _], _ => rfl
  have F_is_network : DefC K mg "is_network" s_is_network f_is_network _ cd_is_network := ⟨⟨_, _, _, _, _, _, _, _, _, rfl, l_is_network, c_is_network⟩, PySem.W.mg_of X G a_is_network, k_is_network⟩
  have b_is_network := F_is_network.binds (ps := ["value"]) rfl fun _ _ _ _ _ _ us hl => match us, hl with | [_], _ => rfl
  have F_numbered : DefC K mg "numbered" s_numbered f_numbered _ cd_numbered := ⟨⟨_, _, _, _, _, _, _, _, _, rfl, l_numbered, c_numbered⟩, PySem.W.mg_of X G a_numbered, k_numbered⟩
  have b_numbered := F_numbered.binds (ps := ["network"]) rfl fun _ _ _ _ _ _ us hl => match us, hl with | [_], _ => rfl
  have F_is_load : DefC K mg "is_load" s_is_load f_is_load _ cd_is_load := ⟨⟨_, _, _, _, _, _, _, _, _, rfl, l_is_load, c_is_load⟩, PySem.W.mg_of X G a_is_load, k_is_load⟩
  have b_is_load := F_is_load.binds (ps := ["network", "value"]) rfl fun _ _ _ _ _ _ us hl => match us, hl with | [_, _], _ => rfl
  have F_gone : DefC K mg "gone" s_gone f_gone _ cd_gone := ⟨⟨_, _, _, _, _, _, _, _, _, rfl, l_gone, c_gone⟩, PySem.W.mg_of X G a_gone, k_gone⟩
  have b_gone := F_gone.binds (ps := ["network", "plan"]) rfl fun _ _ _ _ _ _ us hl => match us, hl with | [_, _], _ => rfl
  have F_is_plan : DefC K mg "is_plan" s_is_plan f_is_plan _ cd_is_plan := ⟨⟨_, _, _, _, _, _, _, _, _, rfl, l_is_plan, c_is_plan⟩, PySem.W.mg_of X G a_is_plan, k_is_plan⟩
  have b_is_plan := F_is_plan.binds (ps := ["network", "load", "value"]) rfl fun _ _ _ _ _ _ us hl => match us, hl with | [_, _, _], _ => rfl
  have F_cost_of : DefC K mg "cost_of" s_cost_of f_cost_of _ cd_cost_of := ⟨⟨_, _, _, _, _, _, _, _, _, rfl, l_cost_of, c_cost_of⟩, PySem.W.mg_of X G a_cost_of, k_cost_of⟩
  have b_cost_of := F_cost_of.binds (ps := ["network", "plan"]) rfl fun _ _ _ _ _ _ us hl => match us, hl with | [_, _], _ => rfl
  have F_room_out : DefC K mg "room_out" s_room_out f_room_out _ cd_room_out := ⟨⟨_, _, _, _, _, _, _, _, _, rfl, l_room_out, c_room_out⟩, PySem.W.mg_of X G a_room_out, k_room_out⟩
  have b_room_out := F_room_out.binds (ps := ["network", "offices"]) rfl fun _ _ _ _ _ _ us hl => match us, hl with | [_, _], _ => rfl
  have F__law_box : DefC K mg "_law_box" s__law_box f__law_box _ cd__law_box := ⟨⟨_, _, _, _, _, _, _, _, _, rfl, l__law_box, c__law_box⟩, PySem.W.mg_of X G a__law_box, k__law_box⟩
  have b__law_box := F__law_box.binds (ps := ["script"]) rfl fun _ _ _ _ _ _ us hl => match us, hl with | [_], _ => rfl
  have F__law_load : DefC K mg "_law_load" s__law_load f__law_load _ cd__law_load := ⟨⟨_, _, _, _, _, _, _, _, _, rfl, l__law_load, c__law_load⟩, PySem.W.mg_of X G a__law_load, k__law_load⟩
  have b__law_load := F__law_load.binds (ps := ["box"]) rfl fun _ _ _ _ _ _ us hl => match us, hl with | [_], _ => rfl
  have F__law_draw : DefC K mg "_law_draw" s__law_draw f__law_draw _ cd__law_draw := ⟨⟨_, _, _, _, _, _, _, _, _, rfl, l__law_draw, c__law_draw⟩, PySem.W.mg_of X G a__law_draw, k__law_draw⟩
  have b__law_draw := F__law_draw.binds (ps := ["box", "many"]) rfl fun _ _ _ _ _ _ us hl => match us, hl with | [_, _], _ => rfl
  have F__law_same : DefC K mg "_law_same" s__law_same f__law_same _ cd__law_same := ⟨⟨_, _, _, _, _, _, _, _, _, rfl, l__law_same, c__law_same⟩, PySem.W.mg_of X G a__law_same, k__law_same⟩
  have b__law_same := F__law_same.binds (ps := ["a", "b"]) rfl fun _ _ _ _ _ _ us hl => match us, hl with | [_, _], _ => rfl
  have F__law_names : DefC K mg "_law_names" s__law_names f__law_names _ cd__law_names := ⟨⟨_, _, _, _, _, _, _, _, _, rfl, l__law_names, c__law_names⟩, PySem.W.mg_of X G a__law_names, k__law_names⟩
  have b__law_names := F__law_names.binds (ps := ["box", "many"]) rfl fun _ _ _ _ _ _ us hl => match us, hl with | [_, _], _ => rfl
  have F__law_bent : DefC K mg "_law_bent" s__law_bent f__law_bent _ cd__law_bent := ⟨⟨_, _, _, _, _, _, _, _, _, rfl, l__law_bent, c__law_bent⟩, PySem.W.mg_of X G a__law_bent, k__law_bent⟩
  have b__law_bent := F__law_bent.binds (ps := ["box", "value"]) rfl fun _ _ _ _ _ _ us hl => match us, hl with | [_, _], _ => rfl
  have F__law_whole : DefC K mg "_law_whole" s__law_whole f__law_whole _ cd__law_whole := ⟨⟨_, _, _, _, _, _, _, _, _, rfl, l__law_whole, c__law_whole⟩, PySem.W.mg_of X G a__law_whole, k__law_whole⟩
  have b__law_whole := F__law_whole.binds (ps := ["value", "low", "high"]) rfl fun _ _ _ _ _ _ us hl => match us, hl with | [_, _, _], _ => rfl
  have F__law_is_name : DefC K mg "_law_is_name" s__law_is_name f__law_is_name _ cd__law_is_name := ⟨⟨_, _, _, _, _, _, _, _, _, rfl, l__law_is_name, c__law_is_name⟩, PySem.W.mg_of X G a__law_is_name, k__law_is_name⟩
  have b__law_is_name := F__law_is_name.binds (ps := ["value"]) rfl fun _ _ _ _ _ _ us hl => match us, hl with | [_], _ => rfl
  have F__law_is_van : DefC K mg "_law_is_van" s__law_is_van f__law_is_van _ cd__law_is_van := ⟨⟨_, _, _, _, _, _, _, _, _, rfl, l__law_is_van, c__law_is_van⟩, PySem.W.mg_of X G a__law_is_van, k__law_is_van⟩
  have b__law_is_van := F__law_is_van.binds (ps := ["names", "value"]) rfl fun _ _ _ _ _ _ us hl => match us, hl with | [_, _], _ => rfl
  have F__law_network_due : DefC K mg "_law_network_due" s__law_network_due f__law_network_due _ cd__law_network_due := ⟨⟨_, _, _, _, _, _, _, _, _, rfl, l__law_network_due, c__law_network_due⟩, PySem.W.mg_of X G a__law_network_due, k__law_network_due⟩
  have b__law_network_due := F__law_network_due.binds (ps := ["value"]) rfl fun _ _ _ _ _ _ us hl => match us, hl with | [_], _ => rfl
  have F__law_gone : DefC K mg "_law_gone" s__law_gone f__law_gone _ cd__law_gone := ⟨⟨_, _, _, _, _, _, _, _, _, rfl, l__law_gone, c__law_gone⟩, PySem.W.mg_of X G a__law_gone, k__law_gone⟩
  have b__law_gone := F__law_gone.binds (ps := ["network", "plan"]) rfl fun _ _ _ _ _ _ us hl => match us, hl with | [_, _], _ => rfl
  have F__law_load_due : DefC K mg "_law_load_due" s__law_load_due f__law_load_due _ cd__law_load_due := ⟨⟨_, _, _, _, _, _, _, _, _, rfl, l__law_load_due, c__law_load_due⟩, PySem.W.mg_of X G a__law_load_due, k__law_load_due⟩
  have b__law_load_due := F__law_load_due.binds (ps := ["network", "value"]) rfl fun _ _ _ _ _ _ us hl => match us, hl with | [_, _], _ => rfl
  have F__law_plan_due : DefC K mg "_law_plan_due" s__law_plan_due f__law_plan_due _ cd__law_plan_due := ⟨⟨_, _, _, _, _, _, _, _, _, rfl, l__law_plan_due, c__law_plan_due⟩, PySem.W.mg_of X G a__law_plan_due, k__law_plan_due⟩
  have b__law_plan_due := F__law_plan_due.binds (ps := ["network", "load", "value"]) rfl fun _ _ _ _ _ _ us hl => match us, hl with | [_, _, _], _ => rfl
  have F__law_network : DefC K mg "_law_network" s__law_network f__law_network _ cd__law_network := ⟨⟨_, _, _, _, _, _, _, _, _, rfl, l__law_network, c__law_network⟩, PySem.W.mg_of X G a__law_network, k__law_network⟩
  have b__law_network := F__law_network.binds (ps := ["box", "many", "count"]) rfl fun _ _ _ _ _ _ us hl => match us, hl with | [_, _, _], _ => rfl
  have F__law_near_fine : DefC K mg "_law_near_fine" s__law_near_fine f__law_near_fine _ cd__law_near_fine := ⟨⟨_, _, _, _, _, _, _, _, _, rfl, l__law_near_fine, c__law_near_fine⟩, PySem.W.mg_of X G a__law_near_fine, k__law_near_fine⟩
  have b__law_near_fine := F__law_near_fine.binds (ps := ["network", "at"]) rfl fun _ _ _ _ _ _ us hl => match us, hl with | [_, _], _ => rfl
  have F__law_great_fine : DefC K mg "_law_great_fine" s__law_great_fine f__law_great_fine _ cd__law_great_fine := ⟨⟨_, _, _, _, _, _, _, _, _, rfl, l__law_great_fine, c__law_great_fine⟩, PySem.W.mg_of X G a__law_great_fine, k__law_great_fine⟩
  have b__law_great_fine := F__law_great_fine.binds (ps := []) rfl fun _ _ _ _ _ _ us hl => match us, hl with | [], _ => rfl
  have F_law : DefC K mg "law" s_law fa _ cd_law := ⟨⟨_, _, _, _, _, _, _, _, _, rfl, l_law, c_law⟩, PySem.W.mg_of X G a_law, k_law⟩
  obtain ⟨p_is_name, q_is_name⟩ := tab_of X TT r_is_name (PySem.W.mg_of X G a_is_name) l_is_name rfl rfl t_is_name
  obtain ⟨p_is_ascending, q_is_ascending⟩ := tab_of X TT r_is_ascending (PySem.W.mg_of X G a_is_ascending) l_is_ascending rfl rfl t_is_ascending
  obtain ⟨p_is_network, q_is_network⟩ := tab_of X TT r_is_network (PySem.W.mg_of X G a_is_network) l_is_network rfl rfl t_is_network
  obtain ⟨p_is_load, q_is_load⟩ := tab_of X TT r_is_load (PySem.W.mg_of X G a_is_load) l_is_load rfl rfl t_is_load
  obtain ⟨p_is_plan, q_is_plan⟩ := tab_of X TT r_is_plan (PySem.W.mg_of X G a_is_plan) l_is_plan rfl rfl t_is_plan
  obtain ⟨p_cost_of, q_cost_of⟩ := tab_of X TT r_cost_of (PySem.W.mg_of X G a_cost_of) l_cost_of rfl rfl t_cost_of
  obtain ⟨p_room_out, q_room_out⟩ := tab_of X TT r_room_out (PySem.W.mg_of X G a_room_out) l_room_out rfl rfl t_room_out
  have LW : Lw K mg (⟨K, [T_is_name, T_is_ascending, T_is_network, T_is_load, T_is_plan, T_cost_of, T_room_out], fun _ => none⟩ : Gh) := { hK := rfl, z_all := PySem.W.mg_none_of X G z_all, z_bool := PySem.W.mg_none_of X G z_bool, z_enumerate := PySem.W.mg_none_of X G z_enumerate, z_int := PySem.W.mg_none_of X G z_int, z_isinstance := PySem.W.mg_none_of X G z_isinstance, z_len := PySem.W.mg_none_of X G z_len, z_list := PySem.W.mg_none_of X G z_list, z_range := PySem.W.mg_none_of X G z_range, z_set := PySem.W.mg_none_of X G z_set, z_sorted := PySem.W.mg_none_of X G z_sorted, z_str := PySem.W.mg_none_of X G z_str, z_sum := PySem.W.mg_none_of X G z_sum, z_tuple := PySem.W.mg_none_of X G z_tuple, z_zip := PySem.W.mg_none_of X G z_zip, g_DIGITS := glob_of X G g_DIGITS d_DIGITS, g_MAX_COST := glob_of X G g_MAX_COST d_MAX_COST, g_MAX_LOAD := glob_of X G g_MAX_LOAD d_MAX_LOAD, g_MAX_OFFICES := glob_of X G g_MAX_OFFICES d_MAX_OFFICES, g_MAX_ROOM := glob_of X G g_MAX_ROOM d_MAX_ROOM, g_MAX_VANS := glob_of X G g_MAX_VANS d_MAX_VANS, g_RESERVED := glob_of X G g_RESERVED d_RESERVED, g_SMALL := glob_of X G g_SMALL d_SMALL }
  refine ⟨PySem.W.fnOf "law" "law" (C8.fnArgs s_law) (C8.fnBody s_law) (C8.fnScope s_law) .none kV_law dc_law pm_law an_law (.ref cd_law) ct_law, [(cd_is_name, T_is_name), (cd_is_ascending, T_is_ascending), (cd_is_network, T_is_network), (cd_is_load, T_is_load), (cd_is_plan, T_is_plan), (cd_cost_of, T_cost_of), (cd_room_out, T_room_out)], spLaw ⟨K, [T_is_name, T_is_ascending, T_is_network, T_is_load, T_is_plan, T_cost_of, T_room_out], fun _ => none⟩, (List.forall_mem_cons.mpr ⟨p_is_name, (List.forall_mem_cons.mpr ⟨p_is_ascending, (List.forall_mem_cons.mpr ⟨p_is_network, (List.forall_mem_cons.mpr ⟨p_is_load, (List.forall_mem_cons.mpr ⟨p_is_plan, (List.forall_mem_cons.mpr ⟨p_cost_of, (List.forall_mem_cons.mpr ⟨p_room_out, (fun p hp => absurd hp (by simp))⟩)⟩)⟩)⟩)⟩)⟩)⟩), (List.forall_mem_cons.mpr ⟨n_is_name, (List.forall_mem_cons.mpr ⟨n_is_ascending, (List.forall_mem_cons.mpr ⟨n_is_network, (List.forall_mem_cons.mpr ⟨n_is_load, (List.forall_mem_cons.mpr ⟨n_is_plan, (List.forall_mem_cons.mpr ⟨n_cost_of, (List.forall_mem_cons.mpr ⟨n_room_out, (fun p hp => absurd hp (by simp))⟩)⟩)⟩)⟩)⟩)⟩)⟩), (List.forall_mem_cons.mpr ⟨q_is_name, (List.forall_mem_cons.mpr ⟨q_is_ascending, (List.forall_mem_cons.mpr ⟨q_is_network, (List.forall_mem_cons.mpr ⟨q_is_load, (List.forall_mem_cons.mpr ⟨q_is_plan, (List.forall_mem_cons.mpr ⟨q_cost_of, (List.forall_mem_cons.mpr ⟨q_room_out, (fun p hp => absurd hp (by simp))⟩)⟩)⟩)⟩)⟩)⟩)⟩), fun s u => .of_eq rfl, fun H a ns hl _ hT hS => ⟨a, ns, rfl, hS, hl, _, rel0 (fun P hP => ?_), fun _ => rfl⟩, fun base hKb hNs hTB => ?_⟩
  · simp only [List.mem_cons, List.not_mem_nil, or_false] at hP
    rcases hP with hP | hP | hP | hP | hP | hP | hP
    · rw [hP]; exact hT (cd_is_name, T_is_name) (by simp)
    · rw [hP]; exact hT (cd_is_ascending, T_is_ascending) (by simp)
    · rw [hP]; exact hT (cd_is_network, T_is_network) (by simp)
    · rw [hP]; exact hT (cd_is_load, T_is_load) (by simp)
    · rw [hP]; exact hT (cd_is_plan, T_is_plan) (by simp)
    · rw [hP]; exact hT (cd_cost_of, T_cost_of) (by simp)
    · rw [hP]; exact hT (cd_room_out, T_room_out) (by simp)
  have c_is_name := cal_is_name (P := l.prog) (w := w) (base := base) LW F_is_name (tabB_of (hTB (cd_is_name, T_is_name) (by simp))) (by simp) b_is_name 
  have c_is_number := cal_is_number (P := l.prog) (w := w) (base := base) LW F_is_number b_is_number 
  have c_is_ascending := cal_is_ascending (P := l.prog) (w := w) (base := base) LW F_is_ascending (tabB_of (hTB (cd_is_ascending, T_is_ascending) (by simp))) (by simp) b_is_ascending 
  have c_is_van := cal_is_van (P := l.prog) (w := w) (base := base) LW F_is_van b_is_van c_is_number
  have c_is_network := cal_is_network (P := l.prog) (w := w) (base := base) LW F_is_network (tabB_of (hTB (cd_is_network, T_is_network) (by simp))) (by simp) b_is_network c_is_name c_is_van c_is_ascending
  have c_numbered := cal_numbered (P := l.prog) (w := w) (base := base) LW F_numbered b_numbered 
  have c_is_load := cal_is_load (P := l.prog) (w := w) (base := base) LW F_is_load (tabB_of (hTB (cd_is_load, T_is_load) (by simp))) (by simp) b_is_load c_is_number
  have c_gone := cal_gone (P := l.prog) (w := w) (base := base) LW F_gone b_gone c_numbered
  have c_is_plan := cal_is_plan (P := l.prog) (w := w) (base := base) LW F_is_plan (tabB_of (hTB (cd_is_plan, T_is_plan) (by simp))) (by simp) b_is_plan c_is_number c_gone
  have c_cost_of := cal_cost_of (P := l.prog) (w := w) (base := base) LW F_cost_of (tabB_of (hTB (cd_cost_of, T_cost_of) (by simp))) (by simp) b_cost_of 
  have c_room_out := cal_room_out (P := l.prog) (w := w) (base := base) LW F_room_out (tabB_of (hTB (cd_room_out, T_room_out) (by simp))) (by simp) b_room_out c_numbered
  have c__law_box := cal__law_box (P := l.prog) (w := w) (base := base) LW F__law_box b__law_box 
  have c__law_load := cal__law_load (P := l.prog) (w := w) (base := base) LW F__law_load b__law_load 
  have c__law_draw := cal__law_draw (P := l.prog) (w := w) (base := base) LW F__law_draw b__law_draw c__law_load
  have c__law_same := cal__law_same (P := l.prog) (w := w) (base := base) LW F__law_same b__law_same 
  have c__law_names := cal__law_names (P := l.prog) (w := w) (base := base) LW F__law_names b__law_names c__law_draw
  have c__law_bent := cal__law_bent (P := l.prog) (w := w) (base := base) LW F__law_bent b__law_bent c__law_draw
  have c__law_whole := cal__law_whole (P := l.prog) (w := w) (base := base) LW F__law_whole b__law_whole 
  have c__law_is_name := cal__law_is_name (P := l.prog) (w := w) (base := base) LW F__law_is_name b__law_is_name 
  have c__law_is_van := cal__law_is_van (P := l.prog) (w := w) (base := base) LW F__law_is_van b__law_is_van c__law_whole
  have c__law_network_due := cal__law_network_due (P := l.prog) (w := w) (base := base) LW F__law_network_due b__law_network_due c__law_is_name c__law_is_van
  have c__law_gone := cal__law_gone (P := l.prog) (w := w) (base := base) LW F__law_gone b__law_gone 
  have c__law_load_due := cal__law_load_due (P := l.prog) (w := w) (base := base) LW F__law_load_due b__law_load_due c__law_whole
  have c__law_plan_due := cal__law_plan_due (P := l.prog) (w := w) (base := base) LW F__law_plan_due b__law_plan_due c__law_whole c__law_gone
  have c__law_network := cal__law_network (P := l.prog) (w := w) (base := base) LW F__law_network b__law_network c__law_names c__law_draw
  have c__law_near_fine := cal__law_near_fine (P := l.prog) (w := w) (base := base) LW F__law_near_fine b__law_near_fine c__law_same c_is_network
  have c__law_great_fine := cal__law_great_fine (P := l.prog) (w := w) (base := base) LW F__law_great_fine b__law_great_fine c_is_network c_is_load c_is_plan c_cost_of c_room_out
  exact fn_law (P := l.prog) (w := w) (base := base) LW F_law c__law_box c__law_network c__law_draw c__law_great_fine c__law_same c_is_network c__law_near_fine c__law_bent c__law_network_due c__law_gone c_is_load c_is_plan c__law_load_due c__law_plan_due c_cost_of c_room_out hf
end Yk53
set_option maxRecDepth 100000
set_option maxHeartbeats 4000000
/-! data of bounded size; texts -/
namespace O
open PySem
def asc (x : Str) : Prop := ∀ c ∈ x.cps.toList, c < 128
def gd (n : Nat) : Nat → D → Prop
  | _, .none => True
  | _, .bool _ => True
  | _, .int i => i.natAbs < 2 ^ n
  | _, .str x => x.length ≤ n ∧ asc x
  | k + 1, .tuple ds => ds.length ≤ n ∧ ∀ d ∈ ds, gd n k d
  | k + 1, .list ds => ds.length ≤ n ∧ ∀ d ∈ ds, gd n k d
  | _, _ => False
@[simp] theorem gd_none {n k : Nat} : gd n k .none = True := by cases k <;> rfl
@[simp] theorem gd_bool {n k : Nat} {b : Bool} : gd n k (.bool b) = True := by cases k <;> rfl
@[simp] theorem gd_int {n k : Nat} {i : Int} : gd n k (.int i) = (i.natAbs < 2 ^ n) := by cases k <;> rfl
@[simp] theorem gd_str {n k : Nat} {x : Str} : gd n k (.str x) = (x.length ≤ n ∧ asc x) := by cases k <;> rfl
@[simp] theorem gd_tup {n k : Nat} {ds : List D} : gd n (k + 1) (.tuple ds) = (ds.length ≤ n ∧ ∀ d ∈ ds, gd n k d) := rfl
@[simp] theorem gd_lst {n k : Nat} {ds : List D} : gd n (k + 1) (.list ds) = (ds.length ≤ n ∧ ∀ d ∈ ds, gd n k d) := rfl
@[simp] theorem gd_tup0 {n : Nat} {ds : List D} : gd n 0 (.tuple ds) = False := rfl
@[simp] theorem gd_lst0 {n : Nat} {ds : List D} : gd n 0 (.list ds) = False := rfl
@[simp] theorem gd_dict {n k : Nat} {ds : List (D × D)} : gd n k (.dict ds) = False := by cases k <;> rfl
theorem gd_mono {n m : Nat} (hn : n ≤ m) : ∀ {k l : Nat} {d : D}, k ≤ l → gd n k d → gd m l d
  | k, l, .none, _, _ => by simp
  | k, l, .bool _, _, _ => by simp
  | k, l, .int i, _, h => by
    rw [gd_int] at h ⊢
    exact Nat.lt_of_lt_of_le h (Nat.pow_le_pow_right (by decide) hn)
  | k, l, .str x, _, h => by
    rw [gd_str] at h ⊢
    exact ⟨Nat.le_trans h.1 hn, h.2⟩
  | 0, l, .tuple ds, _, h => by rw [gd_tup0] at h; exact h.elim
  | 0, l, .list ds, _, h => by rw [gd_lst0] at h; exact h.elim
  | k, l, .dict ds, _, h => by rw [gd_dict] at h; exact h.elim
  | k + 1, 0, .tuple ds, hk, _ => by omega
  | k + 1, 0, .list ds, hk, _ => by omega
  | k + 1, l + 1, .tuple ds, hk, h => by
    rw [gd_tup] at h ⊢
    exact ⟨Nat.le_trans h.1 hn, fun d hd => gd_mono hn (by omega) (h.2 d hd)⟩
  | k + 1, l + 1, .list ds, hk, h => by
    rw [gd_lst] at h ⊢
    exact ⟨Nat.le_trans h.1 hn, fun d hd => gd_mono hn (by omega) (h.2 d hd)⟩
theorem canAll {ds : List D} (h : ∀ d ∈ ds, d.canLay0 = true) : PyData.canLayAll0 ds = true := by
  induction ds with
  | nil => simp [PyData.canLayAll0]
  | cons d ds ih =>
    rw [PyData.canLayAll0, h d List.mem_cons_self, ih fun x hx => h x (List.mem_cons_of_mem _ hx)]
    rfl
theorem depAll {k : Nat} {ds : List D} (h : ∀ d ∈ ds, d.depth ≤ k) : PyData.depthAll ds ≤ k := by
  induction ds with
  | nil => simp [PyData.depthAll]
  | cons d ds ih =>
    rw [PyData.depthAll]
    exact Nat.max_le.mpr ⟨h d List.mem_cons_self, ih fun x hx => h x (List.mem_cons_of_mem _ hx)⟩
theorem strOk_asc {x : Str} (h : asc x) : PyData.strOk x = true := by
  unfold PyData.strOk
  rw [← Array.all_toList, List.all_eq_true]
  intro c hc
  have := h c hc
  exact decide_eq_true (by omega)
theorem gd_lay {n : Nat} : ∀ {k : Nat} {d : D}, gd n k d → d.canLay0 = true ∧ d.depth ≤ k
  | k, .none, _ => by simp [PyData.canLay0, PyData.depth]
  | k, .bool _, _ => by simp [PyData.canLay0, PyData.depth]
  | k, .int i, h => by simp [PyData.canLay0, PyData.depth]
  | k, .str x, h => by
    rw [gd_str] at h
    simp [PyData.canLay0, PyData.depth, strOk_asc h.2]
  | 0, .tuple ds, h => by rw [gd_tup0] at h; exact h.elim
  | 0, .list ds, h => by rw [gd_lst0] at h; exact h.elim
  | k, .dict ds, h => by rw [gd_dict] at h; exact h.elim
  | k + 1, .tuple ds, h => by
    rw [gd_tup] at h
    have h1 := canAll fun d hd => (gd_lay (h.2 d hd)).1
    have h2 := depAll fun d hd => (gd_lay (h.2 d hd)).2
    simp only [PyData.canLay0, PyData.depth, h1, true_and]
    omega
  | k + 1, .list ds, h => by
    rw [gd_lst] at h
    have h1 := canAll fun d hd => (gd_lay (h.2 d hd)).1
    have h2 := depAll fun d hd => (gd_lay (h.2 d hd)).2
    simp only [PyData.canLay0, PyData.depth, h1, true_and]
    omega
theorem gd_shaped {n k : Nat} {d : D} (h : gd n k d) (hk : k ≤ 64) : SeqAt.shaped d = true := by
  have := gd_lay h
  unfold SeqAt.shaped
  rw [this.1, Bool.true_and]
  exact decide_eq_true (by omega)
theorem shaped_all {n k : Nat} {ds : List D} (h : ∀ d ∈ ds, gd n k d) (hk : k ≤ 63) : SeqAt.shaped (.tuple ds) = true ∧ SeqAt.shaped (.list ds) = true := by
  have h1 := canAll fun d hd => (gd_lay (h d hd)).1
  have h2 := depAll fun d hd => (gd_lay (h d hd)).2
  unfold SeqAt.shaped
  simp only [PyData.canLay0, PyData.depth, h1, Bool.true_and]
  exact ⟨decide_eq_true (by omega), decide_eq_true (by omega)⟩
/-! texts -/
theorem in_str {m n : Md} {x y : Str} : semIn (m, .str x) (n, .str y) = .ok (.sh, .bool (subStr x y)) := (rfl)
theorem notin_str {m n : Md} {x y : Str} : semNotIn (m, .str x) (n, .str y) = .ok (.sh, .bool (!subStr x y)) := (rfl)
theorem sub_one (c : Nat) (y : Str) : subStr ⟨#[c]⟩ y = decide (c ∈ y.cps.toList) := StrLaws.found_one y c
theorem in_one {m n : Md} {c : Nat} {y : Str} : semIn (m, .str ⟨#[c]⟩) (n, .str y) = .ok (.sh, .bool (decide (c ∈ y.cps.toList))) := by
  rw [in_str, sub_one]
theorem in_tup {m n : Md} {a : D} {ds : List D} (ha : SeqAt.shaped a = true) (hd : SeqAt.shaped (.tuple ds) = true) : semIn (m, a) (n, .tuple ds) = .ok (.sh, .bool (ds.any fun z => PyData.eqv z a)) := by
  show (semInB (m, a) (n, .tuple ds) >>= _) = _
  rw [show semInB (m, a) (n, .tuple ds) = .ok (ds.any fun z => PyData.eqv z a) from if_pos (by rw [ha, hd]; rfl)]
  rfl
theorem notin_tup {m n : Md} {a : D} {ds : List D} (ha : SeqAt.shaped a = true) (hd : SeqAt.shaped (.tuple ds) = true) : semNotIn (m, a) (n, .tuple ds) = .ok (.sh, .bool (!ds.any fun z => PyData.eqv z a)) := by
  show (semInB (m, a) (n, .tuple ds) >>= _) = _
  rw [show semInB (m, a) (n, .tuple ds) = .ok (ds.any fun z => PyData.eqv z a) from if_pos (by rw [ha, hd]; rfl)]
  rfl
theorem big_line {n : Nat} (h : n ≤ 1000000) : n ≤ sizeLine := Nat.le_trans h (by decide)
theorem ix_str {m n : Md} {x : Str} {i : Nat} (h : i < x.cps.toList.length) (hx : x.length ≤ 1000000) : semIx (m, .str x) (n, .int (i : Int)) = .ok (.sh, .str ⟨#[x.cps.toList[i]]⟩) := by
  have e : L2.atI x.cps.toList (i : Int) = some x.cps.toList[i] := by
    unfold L2.atI L2.ixN
    rw [if_pos (by omega), if_pos (by omega), Option.bind_some, Int.toNat_natCast, List.getElem?_eq_getElem h]
  show itemOf (m, .str x) (i : Int) = _
  have : itemOf (m, .str x) (i : Int) = if x.length ≤ sizeLine then match L2.atI x.cps.toList (i : Int) with
    | some k => .ok (.sh, .str ⟨#[k]⟩)
    | none => stk else stk := by
    unfold itemOf
    cases m with
    | sh => rfl
    | bo => rfl
    | ow z => cases z <;> rfl
    | bx => rfl
    | dk => rfl
    | fn => rfl
  rw [this, if_pos (big_line hx), e]
theorem ix_str0 {m n : Md} {c : Nat} {cs : List Nat} {x : Str} (hx : x.cps.toList = c :: cs) (hl : x.length ≤ 1000000) : semIx (m, .str x) (n, .int 0) = .ok (.sh, .str ⟨#[c]⟩) := by
  have h := ix_str (m := m) (n := n) (x := x) (i := 0) (by rw [hx]; simp) hl
  simp only [hx, List.getElem_cons_zero] at h
  exact h
theorem len_str {m : Md} {x : Str} (h : x.length ≤ 1000000) : semLen [(m, .str x)] = .ok (.sh, .int (x.length : Nat)) := if_pos (big_line h)
theorem add_str {m n : Md} {x y : Str} (h : x.length + y.length ≤ 1000000) : semAdd (m, .str x) (n, .str y) = .ok (.sh, .str (x ++ y)) := by
  show (if x.length + y.length ≤ sizeLine then _ else _) = _
  rw [if_pos (big_line h)]
theorem cut_str {m : Md} {x : Str} {lo hi : Option Int} (h : x.length ≤ 1000000) : cutOf (m, .str x) lo hi = .ok (.sh, .str (L2.cutS x lo hi)) := if_pos (big_line h)
theorem lt_str {m n : Md} {x y : Str} : semLt (m, .str x) (n, .str y) = .ok (.sh, .bool (decide (x.cps.toList < y.cps.toList))) := (rfl)
theorem shaped_str {x : Str} (h : asc x) : SeqAt.shaped (.str x) = true := gd_shaped (n := x.length) (k := 0) (by rw [gd_str]; exact ⟨Nat.le_refl _, h⟩) (by omega)
theorem eqv_str' {x y : Str} : PyData.eqv (.str x) (.str y) = decide (x = y) := by
  rw [eqv_str, Bool.eq_iff_iff, beq_iff_eq, decide_eq_true_eq]
@[simp] theorem eq_str {m n : Md} {x y : Str} : semEq (m, .str x) (n, .str y) = .ok (.sh, .bool (decide (x = y))) := by
  rw [← eqv_str']
  rfl
@[simp] theorem ne_str {m n : Md} {x y : Str} : semNe (m, .str x) (n, .str y) = .ok (.sh, .bool (!decide (x = y))) := by
  rw [← eqv_str']
  rfl
theorem asc_app {x y : Str} (hx : asc x) (hy : asc y) : asc (x ++ y) := by
  intro c hc
  rw [show (x ++ y).cps = x.cps ++ y.cps from rfl, Array.toList_append] at hc
  rcases List.mem_append.mp hc with h | h
  · exact hx c h
  · exact hy c h
theorem len_app (x y : Str) : (x ++ y).length = x.length + y.length := by
  show (x.cps ++ y.cps).size = _
  rw [Array.size_append]
  rfl
theorem repr_asc (i : Int) : asc (Str.ofString i.repr) := by
  intro c hc
  rw [PyProof.Rows.signs_ofString] at hc
  obtain ⟨ch, hch, rfl⟩ := List.mem_map.mp hc
  have dg : ∀ m : Nat, ∀ ch ∈ (Nat.repr m).toList, ch.toNat < 128 := fun m ch h => by
    rw [Nat.toList_repr] at h
    have := PyProof.Rows.digit_range (Nat.isDigit_of_mem_toDigits (by decide) (by decide) h)
    omega
  cases i with
  | ofNat m => exact dg m ch hch
  | negSucc m =>
    have e : (Int.negSucc m).repr = "-" ++ Nat.repr (m + 1) := rfl
    rw [e, String.toList_append] at hch
    rcases List.mem_append.mp hch with h | h
    · have : ch = '-' := by simpa using h
      subst this
      decide
    · exact dg _ _ h
theorem repr_len {n : Nat} (hn : 0 < n) {i : Int} (h : i.natAbs < 2 ^ n) : (Str.ofString i.repr).length ≤ n + 1 := by
  rw [PyProof.Rows.ofString_len]
  refine int_text_length_le hn ?_
  by_cases h0 : i.natAbs = 0
  · rw [h0]; simpa using hn
  · exact (Nat.log2_lt h0).mpr h
/-! upper -/
def upC (c : Nat) : Nat := if 97 ≤ c ∧ c ≤ 122 then c - 32 else c
theorem upper_list : ∀ (l : List Nat), (∀ c ∈ l, c < 128) → Txt.upper ⟨l.toArray⟩ = ⟨(l.map upC).toArray⟩
  | [], _ => by decide +kernel
  | c :: l, h => by
    have e : (⟨(c :: l).toArray⟩ : Str) = (⟨#[c]⟩ : Str) ++ ⟨l.toArray⟩ := by
      show _ = Str.mk (#[c] ++ l.toArray)
      simp
    rw [e, PySem.W.KOpn.upper_app, PySem.W.KOpn.upper_one (h c List.mem_cons_self), upper_list l fun x hx => h x (List.mem_cons_of_mem _ hx)]
    show Str.mk (#[_] ++ (l.map upC).toArray) = _
    simp [upC]
theorem upper_eq {x : Str} (h : asc x) : Txt.upper x = ⟨(x.cps.toList.map upC).toArray⟩ := by
  have := upper_list x.cps.toList h
  simpa using this
theorem upper_asc {x : Str} (h : asc x) : asc (Txt.upper x) := by
  rw [upper_eq h]
  intro c hc
  have hc : c ∈ x.cps.toList.map upC := hc
  obtain ⟨d, hd, rfl⟩ := List.mem_map.mp hc
  have := h d hd
  unfold upC
  split <;> omega
theorem upper_len {x : Str} (h : asc x) : (Txt.upper x).length = x.length := by
  rw [upper_eq h]
  show (x.cps.toList.map upC).toArray.size = x.cps.size
  simp
theorem upper_ok {m : Md} {x : Str} (h : x.length ≤ 1000000) : semUpper [(m, .str x)] = .ok (.sh, .str (Txt.upper x)) := if_pos (by omega)
/-! order -/
theorem lt_dat {m n : Md} {a b : D} (h : PySem.W.alike a b = true) (hd : a.depth ≤ 64) (hn : a ≠ .none) : semLt (m, a) (n, b) = .ok (.sh, .bool (dLt a b)) := by
  have hd' : min a.depth b.depth ≤ 64 := Nat.le_trans (Nat.min_le_left _ _) hd
  have hi : isNoneD a = false := by cases a <;> first | rfl | exact absurd rfl hn
  have c : (PySem.W.alike a b && decide (min a.depth b.depth ≤ 64) && !isNoneD a) = true := by rw [h, hi, decide_eq_true hd']; rfl
  have other : ∀ (_ : ∀ i j, ¬ (a = .int i ∧ b = .int j)) (_ : ∀ x y, ¬ (a = .str x ∧ b = .str y)), semLt (m, a) (n, b) = .ok (.sh, .bool (dLt a b)) := fun h1 h2 => by
    unfold semLt
    dsimp only
    split
    · skip
      exact absurd ⟨rfl, rfl⟩ (h1 _ _)
    · skip
      exact absurd ⟨rfl, rfl⟩ (h2 _ _)
    · exact if_pos c
  by_cases q1 : ∃ i j, a = .int i ∧ b = .int j
  · obtain ⟨i, j, rfl, rfl⟩ := q1
    show Except.ok (Md.sh, PyData.bool (decide (i < j))) = _
    rw [show dLt (.int i) (.int j) = decide (i < j) from PySem.W.dataLt_int _ _]
  · by_cases q2 : ∃ x y, a = .str x ∧ b = .str y
    · obtain ⟨x, y, rfl, rfl⟩ := q2
      show Except.ok (Md.sh, PyData.bool (decide (x.cps.toList < y.cps.toList))) = _
      rw [show dLt (.str x) (.str y) = decide (x.cps.toList < y.cps.toList) from PySem.W.dataLt_str _ _]
    · exact other (fun i j h => q1 ⟨i, j, h⟩) (fun x y h => q2 ⟨x, y, h⟩)
def ascAt (ds : List D) : D → Bool
  | .int i => match ds[i.toNat]?, ds[i.toNat + 1]? with
    | some a, some b => dLt a b
    | _, _ => false
  | _ => false
def ascD (ds : List D) : Bool := (natsD (ds.length - 1)).all (ascAt ds)
theorem rng_m1 {m : Md} {n : Nat} (h : n ≤ 4000) : onD rng1 [(m, .int ((n : Int) - 1))] = .ok (natsD (n - 1)) := by
  by_cases h0 : n = 0
  · subst h0
    rw [rng_eq]
    rfl
  · have e : ((n : Int) - 1) = ((n - 1 : Nat) : Int) := by omega
    rw [e]
    exact rng_ok4 (by omega)
theorem ascAt_eq {ds : List D} {i : Nat} (h : i + 1 < ds.length) : ascAt ds (.int i) = dLt ds[i] ds[i + 1] := by
  show (match ds[((i : Nat) : Int).toNat]?, ds[((i : Nat) : Int).toNat + 1]? with
    | some a, some b => dLt a b
    | _, _ => false) = _
  rw [Int.toNat_natCast, List.getElem?_eq_getElem h, List.getElem?_eq_getElem (by omega)]
theorem ascD_pair {ds : List D} (h : ds.Pairwise fun a b => dLt a b = true) : ascD ds = true := by
  unfold ascD
  rw [List.all_eq_true]
  intro d hd
  obtain ⟨i, hi, rfl⟩ := mem_natsD hd
  rw [ascAt_eq (by omega)]
  exact List.pairwise_iff_getElem.mp h i (i + 1) (by omega) (by omega) (by omega)
/-- all are alike, none is None -/
def Likes (ds : List D) : Prop := ∀ a ∈ ds, ∀ b ∈ ds, PySem.W.alike a b = true ∧ a.depth ≤ 64 ∧ a ≠ .none
theorem Likes.lt {ds : List D} (h : Likes ds) {i : Nat} (hi : i + 1 < ds.length) {m n : Md} : semLt (m, ds[i]) (n, ds[i + 1]) = .ok (.sh, .bool (ascAt ds (.int i))) := by
  obtain ⟨h1, h2, h3⟩ := h _ (List.getElem_mem (l := ds) (n := i) (by omega)) _ (List.getElem_mem (l := ds) (n := i + 1) hi)
  rw [ascAt_eq hi]
  exact lt_dat h1 h2 h3
@[simp] theorem ix2 {m : Md} {a b d : D} {l : List D} : semIx (.sh, .tuple (a :: b :: d :: l)) (m, .int 2) = .ok (.sh, d) := by
  have := ix_tup (m := m) (l := a :: b :: d :: l) (i := 2) (by simp)
  exact this
@[simp] theorem ix3 {m : Md} {a b d e : D} {l : List D} : semIx (.sh, .tuple (a :: b :: d :: e :: l)) (m, .int 3) = .ok (.sh, e) := by
  have := ix_tup (m := m) (l := a :: b :: d :: e :: l) (i := 3) (by simp)
  exact this
theorem idx_ok {m : Md} {ds : List D} {z : Str} {ys : List Str} (e : ds = ys.map .str) (h : z ∈ ys) : semIndexT [(.sh, .tuple ds), (m, .str z)] = .ok (.sh, .int (ys.findIdx (fun y => decide (y = z)) : Nat)) := by
  have st : strsOf ds = .ok ys := by
    subst e
    clear h
    induction ys with
    | nil => rfl
    | cons y ys ih =>
      rw [List.map_cons, strsOf, ih]
      rfl
  have ha : (ys.any fun y => decide (y = z)) = true := List.any_eq_true.mpr ⟨z, h, by simp⟩
  show (strsOf ds >>= _) = _
  rw [st]
  show (if _ then _ else _ : M MV) = _
  rw [if_pos ha]
  rfl
end O
set_option maxRecDepth 100000
set_option maxHeartbeats 4000000
namespace C53
open PySem O
@[simp] theorem draw_ok (b : Bx) {k : Int} (h : 0 < k) (hk : k < 2 ^ 200) : m__law_draw [(.bx, dB b), (.sh, .int k)] = .ok ((.sh, .int (b.dig k)), [(.bx, dB (b.nxt k))]) := bDraw_ok b h hk
theorem b_mono {i : Int} {a b : Nat} (h : i.natAbs < 2 ^ a) (hab : a ≤ b) : i.natAbs < 2 ^ b := Nat.lt_of_lt_of_le h (Nat.pow_le_pow_right (by omega) hab)
theorem b_plus {i j : Int} {n : Nat} (h : i.natAbs < 2 ^ n) (hj : j.natAbs ≤ 1001) : (i + j).natAbs < 2 ^ (n + 10) := by
  have h1 : 1 ≤ 2 ^ n := Nat.one_le_two_pow
  rw [Nat.pow_add]
  have : (2 : Nat) ^ 10 = 1024 := by decide
  rw [this]
  omega
def upList (i : Int) : List D := [.int (i + 1), .int (i - 1), .int (-i), .bool (decide (i = 1)), .none, .str (Str.ofString i.repr), .tuple [.int i], .int (i + 1001)]
def strList (x : Str) : List D := [.str (x ++ "a"), .str (L2.cutS x (some 1) none), .str "any", .str (Txt.upper x), .int 0, .str "", .str (x ++ "z0z0z0z0"), .tuple [.str x]]
def tupList (ds : List D) : List D := [.tuple (ds ++ cutD ds none (some 1)), .tuple (cutD ds (some 1) none), .tuple ds.reverse, .tuple (ds ++ [.int 0]), .tuple (cutD ds none (some 1) ++ ds), .tuple (cutD ds none (some (-1))), .none, .tuple (cutD ds none (some 1))]
def oddList : List D := [.int 0, .int 1, .none, .bool true, .bool false, .str "a", .tuple [], .int (-1)]
theorem up_gd {n k : Nat} {i : Int} (hn : 10 ≤ n) (h : i.natAbs < 2 ^ n) : ∀ d ∈ upList i, gd (n + 10) (k + 1) d := by
  intro d hd
  simp only [upList, List.mem_cons, List.not_mem_nil, or_false] at hd
  have h1 := b_mono h (b := n + 10) (by omega)
  have hr := repr_len (by omega) h
  rcases hd with rfl | rfl | rfl | rfl | rfl | rfl | rfl | rfl
  · rw [gd_int]; exact b_plus h (by decide)
  · rw [gd_int]; exact b_plus (j := -1) h (by decide)
  · rw [gd_int, Int.natAbs_neg]; exact h1
  · simp
  · simp
  · rw [gd_str]; exact ⟨by omega, repr_asc i⟩
  · rw [gd_tup]; exact ⟨by simp, by simpa using h1⟩
  · rw [gd_int]; exact b_plus h (by decide)
theorem cutS_sub {x : Str} {lo hi : Option Int} : (L2.cutS x lo hi).length ≤ x.length ∧ ∀ c ∈ (L2.cutS x lo hi).cps.toList, c ∈ x.cps.toList := by
  unfold L2.cutS
  simp only [Str.length]
  constructor
  · simp; omega
  · intro c hc
    exact List.mem_of_mem_drop (List.mem_of_mem_take hc)
theorem str_gd {n k : Nat} {x : Str} (hn : 10 ≤ n) (h : x.length ≤ n) (ha : asc x) : ∀ d ∈ strList x, gd (n + 10) (k + 1) d := by
  intro d hd
  simp only [strList, List.mem_cons, List.not_mem_nil, or_false] at hd
  rcases hd with rfl | rfl | rfl | rfl | rfl | rfl | rfl | rfl
  · rw [gd_str, len_app]; exact ⟨by have : Str.length "a" = 1 := by decide
                                    omega, asc_app ha (by unfold asc; decide)⟩
  · rw [gd_str]; exact ⟨Nat.le_trans cutS_sub.1 (by omega), fun c hc => ha c (cutS_sub.2 c hc)⟩
  · rw [gd_str]; exact ⟨by have : Str.length "any" = 3 := by decide
                           omega, by unfold asc; decide⟩
  · rw [gd_str, upper_len ha]; exact ⟨by omega, upper_asc ha⟩
  · simp [Nat.two_pow_pos]
  · rw [gd_str]; exact ⟨by have : Str.length "" = 0 := by decide
                           omega, by unfold asc; decide⟩
  · rw [gd_str, len_app]; exact ⟨by have : Str.length "z0z0z0z0" = 8 := by decide
                                    omega, asc_app ha (by unfold asc; decide)⟩
  · rw [gd_tup]; exact ⟨by simp, by simpa using ⟨by omega, ha⟩⟩
theorem odd_gd {n k : Nat} (hn : 10 ≤ n) : ∀ d ∈ oddList, gd (n + 10) (k + 1) d := by
  intro d hd
  simp only [oddList, List.mem_cons, List.not_mem_nil, or_false] at hd
  rcases hd with rfl | rfl | rfl | rfl | rfl | rfl | rfl | rfl
  · simp [Nat.two_pow_pos]
  · rw [gd_int]; exact Nat.one_lt_two_pow (by omega)
  · simp
  · simp
  · simp
  · rw [gd_str]; exact ⟨by have : Str.length "a" = 1 := by decide
                           omega, by unfold asc; decide⟩
  · rw [gd_tup]; exact ⟨by simp, by simp⟩
  · rw [gd_int]; exact Nat.one_lt_two_pow (by omega)
theorem tup_gd {n k : Nat} {ds : List D} (hn : 10 ≤ n) (hl : ds.length ≤ n) (h : ∀ d ∈ ds, gd n k d) : ∀ d ∈ tupList ds, gd (n + 10) (k + 1) d := by
  intro d hd
  have h' : ∀ d ∈ ds, gd (n + 10) k d := fun d hd => gd_mono (by omega) (Nat.le_refl _) (h d hd)
  have c1 : ∀ lo hi, ∀ x ∈ cutD ds lo hi, gd (n + 10) k x := fun lo hi x hx => h' x (mem_cutD hx)
  have l1 : (cutD ds none (some 1)).length ≤ 1 := by
    have := cut_to ds 1
    simp only [Int.cast_ofNat_Int] at this
    rw [show cutD ds none (some 1) = ds.take 1 from this]
    simp
    omega
  simp only [tupList, List.mem_cons, List.not_mem_nil, or_false] at hd
  rcases hd with rfl | rfl | rfl | rfl | rfl | rfl | rfl | rfl
  · rw [gd_tup]
    refine ⟨by simp; omega, fun x hx => ?_⟩
    rcases List.mem_append.mp hx with hx | hx
    · exact h' x hx
    · exact c1 _ _ x hx
  · rw [gd_tup]; exact ⟨Nat.le_trans len_cutD (by omega), c1 _ _⟩
  · rw [gd_tup]; exact ⟨by simp; omega, fun x hx => h' x (List.mem_reverse.mp hx)⟩
  · rw [gd_tup]
    refine ⟨by simp; omega, fun x hx => ?_⟩
    rcases List.mem_append.mp hx with hx | hx
    · exact h' x hx
    · rw [List.mem_singleton.mp hx]; simp [Nat.two_pow_pos]
  · rw [gd_tup]
    refine ⟨by simp; omega, fun x hx => ?_⟩
    rcases List.mem_append.mp hx with hx | hx
    · exact c1 _ _ x hx
    · exact h' x hx
  · rw [gd_tup]; exact ⟨Nat.le_trans len_cutD (by omega), c1 _ _⟩
  · simp
  · rw [gd_tup]; exact ⟨Nat.le_trans len_cutD (by omega), c1 _ _⟩
theorem pick8 {P : D → Prop} {l : List D} (hl : l.length = 8) (h : ∀ d ∈ l, P d) (b : Bx) : ∃ d, P d ∧ ∀ m, semIx (.ow .sh, .list l) (m, .int (b.dig 8)) = .ok (.sh, d) := by
  obtain ⟨d, hd, e⟩ := pick_ow (l := l) (b.dig_nn (k := 8) (by decide)) (by rw [hl]; exact b.dig_lt (k := 8) (by decide))
  exact ⟨d, h d hd, e⟩
theorem bent_ok {n : Nat} (hn : 10 ≤ n) (hn2 : n ≤ 1800) : ∀ (f k : Nat) (v : D) (b : Bx), k < f → gd n k v → ∃ u b', m__law_bent f [(.bx, dB b), (.sh, v)] = .ok ((.sh, u), [(.bx, dB b')]) ∧ gd (n + 10) (k + 1) u
  | 0, k, v, b, h, _ => absurd h (by omega)
  | f + 1, k, .int i, b, _, h => by
    rw [gd_int] at h
    have hs := str_ok (m := .sh) (b_mono h (b := 1900) (by omega))
    obtain ⟨d, hd, e⟩ := pick8 (l := upList i) rfl (up_gd (k := k) hn h) b
    refine ⟨d, b.nxt 8, ?_, hd⟩
    unfold upList at e
    rw [m__law_bent]
    unfold b__law_bent
    simp [hs, e]
  | f + 1, k, .str x, b, _, h => by
    rw [gd_str] at h
    obtain ⟨d, hd, e⟩ := pick8 (l := strList x) rfl (str_gd (k := k) hn h.1 h.2) b
    refine ⟨d, b.nxt 8, ?_, hd⟩
    unfold strList at e
    have a1 := add_str (m := .sh) (n := .sh) (x := x) (y := "a") (by have : Str.length "a" = 1 := by decide
                                                                     omega)
    have a2 := add_str (m := .sh) (n := .sh) (x := x) (y := "z0z0z0z0") (by have : Str.length "z0z0z0z0" = 8 := by decide
                                                                            omega)
    have a3 := cut_str (m := .sh) (x := x) (lo := some 1) (hi := none) (by omega)
    have a4 := upper_ok (m := .sh) (x := x) (by omega)
    rw [m__law_bent]
    unfold b__law_bent
    have ks : kindOk "str" (.str x) = true := rfl
    simp [e, a1, a2, a3, a4, ks]
  | f + 1, k, .none, b, _, _ => by
    obtain ⟨d, hd, e⟩ := pick8 (l := oddList) rfl (odd_gd (k := k) hn) b
    refine ⟨d, b.nxt 8, ?_, hd⟩
    unfold oddList at e
    rw [m__law_bent]
    unfold b__law_bent
    simp [e]
  | f + 1, k, .bool t, b, _, _ => by
    obtain ⟨d, hd, e⟩ := pick8 (l := oddList) rfl (odd_gd (k := k) hn) b
    refine ⟨d, b.nxt 8, ?_, hd⟩
    unfold oddList at e
    rw [m__law_bent]
    unfold b__law_bent
    simp [e]
  | f + 1, k, .list ds, b, _, _ => by
    obtain ⟨d, hd, e⟩ := pick8 (l := oddList) rfl (odd_gd (k := k) hn) b
    refine ⟨d, b.nxt 8, ?_, hd⟩
    unfold oddList at e
    rw [m__law_bent]
    unfold b__law_bent
    simp [e]
  | f + 1, k, .dict ds, b, _, h => by rw [gd_dict] at h; exact h.elim
  | f + 1, 0, .tuple ds, b, _, h => by rw [gd_tup0] at h; exact h.elim
  | f + 1, k + 1, .tuple ds, b, hf, h => by
    rw [gd_tup] at h
    obtain ⟨hl, ht⟩ := h
    by_cases hc : 0 < ds.length ∧ 0 < b.dig 5
    · have h0 : (0 : Int) < ds.length := by omega
      have hk : (ds.length : Int) < 2 ^ 200 := by omega
      have hdig0 := (b.nxt 5).dig_nn h0
      have hdig1 := (b.nxt 5).dig_lt h0
      obtain ⟨d, hd, e⟩ := pick_tup hdig0 hdig1
      obtain ⟨u, b', e2, hu⟩ := bent_ok hn hn2 f k d ((b.nxt 5).nxt ds.length) (by omega) (ht d hd)
      have hdr := draw_ok (b.nxt 5) h0 hk
      generalize (b.nxt 5).dig (ds.length : Int) = at_ at *
      obtain ⟨j, rfl⟩ := Int.eq_ofNat_of_zero_le hdig0
      have q1 := cut_to ds j
      have q2 : cutD ds (some ((j : Int) + 1)) none = ds.drop (j + 1) := cut_from ds (j + 1)
      have a1 := add_tup (xs := ds.take j) (ys := [u]) (by simp; omega)
      have a2 := add_tup (xs := ds.take j ++ [u]) (ys := ds.drop (j + 1)) (by simp; omega)
      refine ⟨.tuple (ds.take j ++ [u] ++ ds.drop (j + 1)), b', ?_, ?_⟩
      · rw [m__law_bent]
        unfold b__law_bent
        have hlen : 0 < ds.length := hc.1
        simp [hlen, hc.2, hdr, e, e2, q1, q2, a1, a2]
      · rw [gd_tup]
        refine ⟨by simp; omega, fun x hx => ?_⟩
        rcases List.mem_append.mp hx with hx | hx
        · rcases List.mem_append.mp hx with hx | hx
          · exact gd_mono (by omega) (by omega) (ht x (List.mem_of_mem_take hx))
          · rw [List.mem_singleton.mp hx]; exact hu
        · exact gd_mono (by omega) (by omega) (ht x (List.mem_of_mem_drop hx))
    · have l1 := len_cutD (ds := ds) (lo := none) (hi := some 1)
      have a1 := add_tup (xs := ds) (ys := cutD ds none (some 1)) (by omega)
      have a2 := add_tup (xs := ds) (ys := [.int 0]) (by simp; omega)
      have a3 := add_tup (xs := cutD ds none (some 1)) (ys := ds) (by omega)
      have hg := tup_gd hn hl ht
      by_cases h0 : 0 < ds.length
      · have h5 : ¬ 0 < b.dig 5 := fun h => hc ⟨h0, h⟩
        obtain ⟨u, hu, e⟩ := pick8 (l := tupList ds) rfl hg (b.nxt 5)
        refine ⟨u, (b.nxt 5).nxt 8, ?_, gd_mono (Nat.le_refl _) (by omega) hu⟩
        unfold tupList at e
        rw [m__law_bent]
        unfold b__law_bent
        simp [h0, h5, a1, a2, a3, e]
      · obtain ⟨u, hu, e⟩ := pick8 (l := tupList ds) rfl hg b
        refine ⟨u, b.nxt 8, ?_, gd_mono (Nat.le_refl _) (by omega) hu⟩
        unfold tupList at e
        rw [m__law_bent]
        unfold b__law_bent
        simp [h0, a1, a2, a3, e]
end C53
set_option maxRecDepth 100000
set_option maxHeartbeats 4000000
namespace C53
open PySem O
/-! numbers -/
def isNum (lo hi : Int) : D → Bool
  | .int i => decide (lo ≤ i) && decide (i ≤ hi)
  | _ => false
theorem is_number_ok {n k : Nat} {v : D} (hv : gd n k v) (lo hi : Int) : m_is_number [(.sh, v), (.sh, .int lo), (.sh, .int hi)] = .ok ((.sh, .bool (isNum lo hi v)), []) := by
  unfold m_is_number b_is_number isNum
  cases v with
  | int i => by_cases h : lo ≤ i <;> simp [h]
  | dict _ => rw [gd_dict] at hv; exact hv.elim
  | _ => simp
theorem whole_ok {n k : Nat} {v : D} (hv : gd n k v) (lo hi : Int) : m__law_whole [(.sh, v), (.sh, .int lo), (.sh, .int hi)] = .ok ((.sh, .bool (isNum lo hi v)), []) := is_number_ok hv lo hi
/-! names -/
def smS : Str := "abcdefghijklmnopqrstuvwxyz"
def dgS : Str := "0123456789"
def smC (c : Nat) : Bool := decide (c ∈ smS.cps.toList)
def sdC (c : Nat) : Bool := smC c || decide (c ∈ dgS.cps.toList)
def resB (x : Str) : Bool := ([.str "all", .str "any", .str "none"] : List D).any fun z => PyData.eqv z (.str x)
def nameS (x : Str) : Bool := match x.cps.toList with
  | [] => false
  | c :: cs => decide (x.length ≤ 8) && !resB x && (smC c && (c :: cs).all sdC)
def nameB : D → Bool
  | .str x => nameS x
  | _ => false
def sgB : D → Bool
  | .str y => sdC (y.cps.toList.headD 0)
  | _ => false
theorem sg_all (x : Str) : (signs x).all sgB = x.cps.toList.all sdC := by
  unfold signs
  rw [List.all_map]
  rfl
theorem asc_lit {x : Str} (h : x.cps.toList.all (fun c => decide (c < 128)) = true) : asc x := fun c hc => of_decide_eq_true (List.all_eq_true.mp h c hc)
theorem shaped_res : SeqAt.shaped (.tuple [.str "all", .str "any", .str "none"]) = true := (shaped_all (n := 10) (k := 0) (by
  intro d hd
  simp only [List.mem_cons, List.not_mem_nil, or_false] at hd
  rcases hd with rfl | rfl | rfl <;> rw [gd_str] <;> exact ⟨by decide, asc_lit (by decide)⟩) (by omega)).1
theorem len0 {x : Str} (h : x.cps.toList = []) : x.length = 0 := by
  show x.cps.size = 0
  rw [← Array.length_toList, h]
  rfl
theorem len1 {x : Str} {c : Nat} {cs : List Nat} (h : x.cps.toList = c :: cs) : 1 ≤ x.length := by
  show 1 ≤ x.cps.size
  rw [← Array.length_toList, h]
  simp
theorem nameS_nil {x : Str} (hx : x.cps.toList = []) : nameS x = false := by
  unfold nameS
  rw [hx]
theorem nameS_cons {x : Str} {c : Nat} {cs : List Nat} (hx : x.cps.toList = c :: cs) : nameS x = (decide (x.length ≤ 8) && !resB x && (smC c && (c :: cs).all sdC)) := by
  unfold nameS
  rw [hx]
theorem nameB_str {x : Str} : nameB (.str x) = nameS x := rfl
theorem is_name_ok {n k : Nat} (hn : n ≤ 1000000) {v : D} (hv : gd n k v) : m_is_name [(.sh, v)] = .ok ((.sh, .bool (nameB v)), []) := by
  unfold m_is_name b_is_name
  cases v with
  | str x =>
    rw [gd_str] at hv
    have hl := len_str (m := .sh) (x := x) (by omega)
    have hr := in_tup (m := .sh) (n := .sh) (shaped_str hv.2) shaped_res
    change semIn (.sh, .str x) (.sh, k_RESERVED) = .ok (.sh, .bool (resB x)) at hr
    rw [nameB_str]
    cases hx : x.cps.toList with
    | nil =>
      rw [nameS_nil hx]
      have h0 := len0 hx
      rw [h0] at hl
      simp [hl]
    | cons c cs =>
      rw [nameS_cons hx]
      have h1 : (1 : Int) ≤ (x.length : Nat) := by have := len1 hx; omega
      by_cases h8 : x.length ≤ 8
      · have h8' : ((x.length : Nat) : Int) ≤ 8 := by omega
        cases hb : resB x with
        | true => rw [hb] at hr; simp [hl, h1, h8', h8, hr]
        | false =>
          rw [hb] at hr
          have hc0 := ix_str0 (m := .sh) (n := .sh) hx (by omega)
          have hi : semIn (.sh, .str ⟨#[c]⟩) (.sh, k_SMALL) = .ok (.sh, .bool (smC c)) := in_one
          have hg : gbD false [1] (gNm 1) ftYes b_is_name_E1 (signs x) [some (.sh, .str x), none] = .ok ((c :: cs).all sdC, [some (.sh, .str x), none]) := by
            rw [← hx, ← sg_all]
            refine gb_all1 sgB ?_
            intro d hd
            unfold signs at hd
            obtain ⟨c, _, rfl⟩ := List.mem_map.mp hd
            have i1 : semIn (.sh, .str ⟨#[c]⟩) (.sh, k_SMALL) = .ok (.sh, .bool (smC c)) := in_one
            have i2 : semIn (.sh, .str ⟨#[c]⟩) (.sh, k_DIGITS) = .ok (.sh, .bool (decide (c ∈ dgS.cps.toList))) := in_one
            have i3 : sgB (.str ⟨#[c]⟩) = (smC c || decide (c ∈ dgS.cps.toList)) := rfl
            rw [i3]
            cases h : smC c <;> rw [h] at i1 <;> simp [itD, b_is_name_E1, i1, i2]
          cases hs : smC c with
          | false => rw [hs] at hi; simp [hl, h1, h8', h8, hr, hc0, hi]
          | true => rw [hs] at hi; simp [-List.all_cons, hl, h1, h8', h8, hr, hc0, hi, hg]
      · have h8' : ¬ ((x.length : Nat) : Int) ≤ 8 := by omega
        simp [hl, h1, h8', h8]
  | dict _ => rw [gd_dict] at hv; exact hv.elim
  | _ => simp [nameB]
theorem law_is_name_ok {n k : Nat} (hn : n ≤ 1000000) {v : D} (hv : gd n k v) : m__law_is_name [(.sh, v)] = .ok ((.sh, .bool (nameB v)), []) := by
  unfold m__law_is_name b__law_is_name
  cases v with
  | str x =>
    rw [gd_str] at hv
    have hl := len_str (m := .sh) (x := x) (by omega)
    have hr := in_tup (m := .sh) (n := .sh) (shaped_str hv.2) shaped_res
    change semIn (.sh, .str x) (.sh, .tuple [.str "all", .str "any", .str "none"]) = .ok (.sh, .bool (resB x)) at hr
    rw [nameB_str]
    cases hx : x.cps.toList with
    | nil =>
      rw [nameS_nil hx]
      have h0 := len0 hx
      rw [h0] at hl
      simp [hl]
    | cons c cs =>
      rw [nameS_cons hx]
      have h1 : (1 : Int) ≤ (x.length : Nat) := by have := len1 hx; omega
      by_cases h8 : x.length ≤ 8
      · have h8' : ((x.length : Nat) : Int) ≤ 8 := by omega
        cases hb : resB x with
        | true => rw [hb] at hr; simp [hl, h1, h8', h8, hr]
        | false =>
          rw [hb] at hr
          have hc0 := ix_str0 (m := .sh) (n := .sh) hx (by omega)
          have hi : semIn (.sh, .str ⟨#[c]⟩) (.sh, .str smS) = .ok (.sh, .bool (smC c)) := in_one
          have ha : semAdd (.sh, .str smS) (.sh, .str dgS) = .ok (.sh, .str (smS ++ dgS)) := add_str (by decide)
          have hg : lcD [2] (gNm 2) ftYes b__law_is_name_E1 (signs x) [] [some (.sh, .str x), some (.sh, .str smS), none] = .ok ((signs x).map fun d => .bool (sgB d), [some (.sh, .str x), some (.sh, .str smS), none]) := by
            refine lc_map2 (fun d => .bool (sgB d)) ?_ (by unfold signs; simp; show x.length ≤ 1000000; omega)
            intro d hd
            unfold signs at hd
            obtain ⟨c, _, rfl⟩ := List.mem_map.mp hd
            have i1 : semIn (.sh, .str ⟨#[c]⟩) (.sh, .str (smS ++ dgS)) = .ok (.sh, .bool (sgB (.str ⟨#[c]⟩))) := by
              rw [in_one]
              have : (decide (c ∈ (smS ++ dgS).cps.toList)) = sgB (.str ⟨#[c]⟩) := by
                rw [show (smS ++ dgS).cps = smS.cps ++ dgS.cps from rfl, Array.toList_append]
                show _ = (smC c || decide (c ∈ dgS.cps.toList))
                unfold smC
                rw [Bool.eq_iff_iff]
                simp
              rw [this]
            have ha : semAdd (.sh, .str smS) (.sh, .str "0123456789") = .ok (.sh, .str (smS ++ dgS)) := ha
            simp [itD, b__law_is_name_E1, ha, i1]
          have hall := all_map (ds := signs x) (f := sgB)
          rw [sg_all, hx] at hall
          change lcD [2] (gNm 2) ftYes b__law_is_name_E1 (signs x) [] [some (.sh, .str x), some (.sh, .str "abcdefghijklmnopqrstuvwxyz"), none] = _ at hg
          change semIn (.sh, .str ⟨#[c]⟩) (.sh, .str "abcdefghijklmnopqrstuvwxyz") = _ at hi
          cases hs : smC c with
          | false => rw [hs] at hi; simp [hl, h1, h8', h8, hr, hc0, hi]
          | true => rw [hs] at hi; simp [-List.all_cons, hl, h1, h8', h8, hr, hc0, hi, hg, hall]
      · have h8' : ¬ ((x.length : Nat) : Int) ≤ 8 := by omega
        simp [hl, h1, h8', h8]
  | dict _ => rw [gd_dict] at hv; exact hv.elim
  | _ => simp [nameB]
/-! rows in order -/
theorem asc_ok {ds : List D} (hl : ds.length ≤ 4000) (h : Likes ds) : m_is_ascending [(.sh, .tuple ds)] = .ok ((.sh, .bool (ascD ds)), []) := by
  unfold m_is_ascending b_is_ascending
  have hr := rng_m1 (m := .sh) hl
  have hg : gbD false [1] (gNm 1) ftYes b_is_ascending_E1 (natsD (ds.length - 1)) [some (.sh, .tuple ds), none] = .ok (ascD ds, [some (.sh, .tuple ds), none]) := by
    refine gb_all1 (ascAt ds) ?_
    intro d hd
    obtain ⟨i, hi, rfl⟩ := mem_natsD hd
    have q1 := ix_tup (m := .sh) (l := ds) (i := i) (by omega)
    have q2 := ix_tup1 (m := .sh) (l := ds) (i := i) (by omega)
    have q3 := h.lt (i := i) (by omega) (m := .sh) (n := .sh)
    simp [itD, b_is_ascending_E1, q1, q2, q3]
  simp [hr, hg]
end C53
set_option maxRecDepth 100000
set_option maxHeartbeats 4000000
namespace C53
open PySem O
def inN (ns : List D) (a : Str) : Bool := ns.any fun z => PyData.eqv z (.str a)
def vanB (ns : List D) : D → Bool
  | .tuple [.str a, .str b, r, c] => !decide (a = b) && (inN ns a && inN ns b) && (isNum 1 1000 r && isNum 0 1000 c)
  | _ => false
theorem kMR : k_MAX_ROOM = .int 1000 := rfl
theorem kMC : k_MAX_COST = .int 1000 := rfl
theorem is_van_ok {n k l : Nat} {ns : List D} (hns : ∀ d ∈ ns, gd n l d) (hl : l ≤ 63) {v : D} (hv : gd n k v) : m_is_van [(.sh, .tuple ns), (.sh, v)] = .ok ((.sh, .bool (vanB ns v)), []) := by
  unfold m_is_van b_is_van
  cases v with
  | tuple ds =>
    match ds, hv with
    | [], _ => simp [vanB]
    | [a], _ => simp [vanB]
    | [a, b], _ => simp [vanB]
    | [a, b, c], _ => simp [vanB]
    | a :: b :: c :: d :: e :: ds, _ =>
      have h : ¬ ((ds.length : Int) + 1 + 1 + 1 + 1 + 1 = 4) := by omega
      simp [vanB, h]
    | [a, b, r, c], hv =>
      cases k with
      | zero => rw [gd_tup0] at hv; exact hv.elim
      | succ k =>
        rw [gd_tup] at hv
        have ha := hv.2 a (by simp)
        have hb := hv.2 b (by simp)
        have hr := is_number_ok (hv.2 r (by simp)) 1 1000
        have hc := is_number_ok (hv.2 c (by simp)) 0 1000
        cases a with
        | str x =>
          cases b with
          | str y =>
            rw [gd_str] at ha hb
            have ia := notin_tup (m := .sh) (n := .sh) (shaped_str ha.2) (shaped_all hns hl).1
            have ib := notin_tup (m := .sh) (n := .sh) (shaped_str hb.2) (shaped_all hns hl).1
            have e1 : vanB ns (.tuple [.str x, .str y, r, c]) = (!decide (x = y) && ((ns.any fun z => PyData.eqv z (.str x)) && (ns.any fun z => PyData.eqv z (.str y))) && (isNum 1 1000 r && isNum 0 1000 c)) := rfl
            rw [e1]
            by_cases hxy : x = y
            · simp [hxy]
            · cases h1 : (ns.any fun z => PyData.eqv z (.str x)) with
              | false => rw [h1] at ia; simp [hxy, ia]
              | true =>
                rw [h1] at ia
                cases h2 : (ns.any fun z => PyData.eqv z (.str y)) with
                | false => rw [h2] at ib; simp [hxy, ia, ib]
                | true =>
                  rw [h2] at ib
                  cases h3 : isNum 1 1000 r with
                  | false => rw [h3] at hr; simp [hxy, ia, ib, kMR, kMC, hr]
                  | true => rw [h3] at hr; simp [hxy, ia, ib, kMR, kMC, hr, hc]
          | dict _ => rw [gd_dict] at hb; exact hb.elim
          | _ => simp [vanB]
        | dict _ => rw [gd_dict] at ha; exact ha.elim
        | _ => simp [vanB]
  | dict _ => rw [gd_dict] at hv; exact hv.elim
  | _ => simp [vanB]
theorem law_is_van_ok {n k l : Nat} {ns : List D} (hns : ∀ d ∈ ns, gd n l d) (hl : l ≤ 63) {v : D} (hv : gd n k v) : m__law_is_van [(.sh, .tuple ns), (.sh, v)] = .ok ((.sh, .bool (vanB ns v)), []) := by
  unfold m__law_is_van b__law_is_van
  cases v with
  | tuple ds =>
    match ds, hv with
    | [], _ => simp [vanB]
    | [a], _ => simp [vanB]
    | [a, b], _ => simp [vanB]
    | [a, b, c], _ => simp [vanB]
    | a :: b :: c :: d :: e :: ds, _ =>
      have h : ¬ ((ds.length : Int) + 1 + 1 + 1 + 1 + 1 = 4) := by omega
      simp [vanB, h]
    | [a, b, r, c], hv =>
      cases k with
      | zero => rw [gd_tup0] at hv; exact hv.elim
      | succ k =>
        rw [gd_tup] at hv
        have ha := hv.2 a (by simp)
        have hb := hv.2 b (by simp)
        have hr := whole_ok (hv.2 r (by simp)) 1 1000
        have hc := whole_ok (hv.2 c (by simp)) 0 1000
        cases a with
        | str x =>
          cases b with
          | str y =>
            rw [gd_str] at ha hb
            have ia := notin_tup (m := .sh) (n := .sh) (shaped_str ha.2) (shaped_all hns hl).1
            have ib := notin_tup (m := .sh) (n := .sh) (shaped_str hb.2) (shaped_all hns hl).1
            have e1 : vanB ns (.tuple [.str x, .str y, r, c]) = (!decide (x = y) && ((ns.any fun z => PyData.eqv z (.str x)) && (ns.any fun z => PyData.eqv z (.str y))) && (isNum 1 1000 r && isNum 0 1000 c)) := rfl
            rw [e1]
            by_cases hxy : x = y
            · simp [hxy]
            · cases h1 : (ns.any fun z => PyData.eqv z (.str x)) with
              | false => rw [h1] at ia; simp [hxy, ia]
              | true =>
                rw [h1] at ia
                cases h2 : (ns.any fun z => PyData.eqv z (.str y)) with
                | false => rw [h2] at ib; simp [hxy, ia, ib]
                | true =>
                  rw [h2] at ib
                  cases h3 : isNum 1 1000 r with
                  | false => rw [h3] at hr; simp [hxy, ia, ib, hr]
                  | true => rw [h3] at hr; simp [hxy, ia, ib, hr, hc]
          | dict _ => rw [gd_dict] at hb; exact hb.elim
          | _ => simp [vanB]
        | dict _ => rw [gd_dict] at ha; exact ha.elim
        | _ => simp [vanB]
  | dict _ => rw [gd_dict] at hv; exact hv.elim
  | _ => simp [vanB]
end C53
set_option maxRecDepth 100000
set_option maxHeartbeats 4000000
namespace C53
open PySem O
theorem nameB_shape {d : D} (h : nameB d = true) : ∃ x, d = .str x ∧ nameS x = true := by
  unfold nameB at h
  split at h
  · exact ⟨_, rfl, h⟩
  · cases h
theorem isNum_shape {v : D} {lo hi : Int} (h : isNum lo hi v = true) : ∃ i, v = .int i ∧ lo ≤ i ∧ i ≤ hi := by
  unfold isNum at h
  split at h
  · rename_i i
    simp at h
    exact ⟨i, rfl, h.1, h.2⟩
  · cases h
theorem vanB_shape {ns : List D} {d : D} (h : vanB ns d = true) : ∃ a b r c, d = .tuple [.str a, .str b, .int r, .int c] ∧ a ≠ b ∧ inN ns a = true ∧ inN ns b = true ∧ 1 ≤ r ∧ r ≤ 1000 ∧ 0 ≤ c ∧ c ≤ 1000 := by
  unfold vanB at h
  split at h
  · rename_i a b r c
    rw [Bool.and_eq_true, Bool.and_eq_true, Bool.and_eq_true, Bool.and_eq_true] at h
    obtain ⟨⟨h1, h2, h3⟩, h4, h5⟩ := h
    obtain ⟨r, rfl, h6, h7⟩ := isNum_shape h4
    obtain ⟨c, rfl, h8, h9⟩ := isNum_shape h5
    exact ⟨a, b, r, c, rfl, by simpa using h1, h2, h3, h6, h7, h8, h9⟩
  · cases h
theorem likes_names {ns : List D} (h : ns.all nameB = true) : Likes ns := by
  intro a ha b hb
  obtain ⟨x, rfl, _⟩ := nameB_shape (List.all_eq_true.mp h a ha)
  obtain ⟨y, rfl, _⟩ := nameB_shape (List.all_eq_true.mp h b hb)
  exact ⟨by simp [PySem.W.alike], by simp [PyData.depth], by simp⟩
theorem likes_vans {ns vs : List D} (h : vs.all (vanB ns) = true) : Likes vs := by
  intro a ha b hb
  obtain ⟨x, y, r, c, rfl, _⟩ := vanB_shape (List.all_eq_true.mp h a ha)
  obtain ⟨x', y', r', c', rfl, _⟩ := vanB_shape (List.all_eq_true.mp h b hb)
  exact ⟨by simp [PySem.W.alike, PySem.W.alikeAll], by simp [PyData.depth, PyData.depthAll], by simp⟩
def netB : D → Bool
  | .tuple [.tuple ns, .tuple vs] => (decide (ns.length ≤ 40) && ns.all nameB) && (decide (vs.length ≤ 200) && vs.all (vanB ns)) && (ascD ns && ascD vs)
  | _ => false
theorem kMO : k_MAX_OFFICES = .int 40 := rfl
theorem kMV : k_MAX_VANS = .int 200 := rfl
theorem is_network_ok {n k : Nat} (hn : n ≤ 4000) (hk : k ≤ 60) {v : D} (hv : gd n k v) : m_is_network [(.sh, v)] = .ok ((.sh, .bool (netB v)), []) := by
  unfold m_is_network b_is_network
  cases v with
  | tuple ds =>
    match ds, hv with
    | [], _ => simp [netB]
    | [a], _ => simp [netB]
    | a :: b :: c :: ds, _ =>
      have h : ¬ ((ds.length : Int) + 1 + 1 + 1 = 2) := by omega
      simp [netB, h]
    | [a, b], hv =>
      cases k with
      | zero => rw [gd_tup0] at hv; exact hv.elim
      | succ k =>
        rw [gd_tup] at hv
        have ha := hv.2 a (by simp)
        have hb := hv.2 b (by simp)
        cases a with
        | tuple ns =>
          cases k with
          | zero => rw [gd_tup0] at ha; exact ha.elim
          | succ k =>
            rw [gd_tup] at ha
            by_cases h1 : ns.length ≤ 40
            · have h1' : ¬ (40 : Int) < ns.length := by omega
              have g1 : gbD false [3] (gNm 3) ftYes b_is_network_E1 ns [some (.sh, .tuple [.tuple ns, b]), some (.sh, .tuple ns), some (.sh, b), none, none] = .ok (ns.all nameB, [some (.sh, .tuple [.tuple ns, b]), some (.sh, .tuple ns), some (.sh, b), none, none]) :=
                gb_all1 nameB fun d hd => by
                  have := is_name_ok (by omega) (ha.2 d hd)
                  simp [itD, b_is_network_E1, this]
              cases h2 : ns.all nameB with
              | false => rw [h2] at g1; simp [kMO, h1', g1, netB, h2]; cases b <;> simp [netB, h2] <;> (rename_i l; match l with | _ => simp [h2])
              | true =>
                rw [h2] at g1
                cases b with
                | tuple vs =>
                  rw [gd_tup] at hb
                  by_cases h3 : vs.length ≤ 200
                  · have h3' : ¬ (200 : Int) < vs.length := by omega
                    have g2 : gbD false [4] (gNm 4) ftYes b_is_network_E2 vs [some (.sh, .tuple [.tuple ns, .tuple vs]), some (.sh, .tuple ns), some (.sh, .tuple vs), none, none] = .ok (vs.all (vanB ns), [some (.sh, .tuple [.tuple ns, .tuple vs]), some (.sh, .tuple ns), some (.sh, .tuple vs), none, none]) :=
                      gb_all1 (vanB ns) fun d hd => by
                        have := is_van_ok ha.2 (by omega) (hb.2 d hd)
                        simp [itD, b_is_network_E2, this]
                    cases h4 : vs.all (vanB ns) with
                    | false => rw [h4] at g2; simp [kMO, kMV, h1', g1, h3', g2, netB, h4]
                    | true =>
                      rw [h4] at g2
                      have a1 := asc_ok (ds := ns) (by omega) (likes_names h2)
                      have a2 := asc_ok (ds := vs) (by omega) (likes_vans h4)
                      cases h5 : ascD ns with
                      | false => rw [h5] at a1; simp [kMO, kMV, h1', g1, h3', g2, netB, a1, h5]
                      | true => rw [h5] at a1; simp [kMO, kMV, h1, h1', g1, h3, h3', g2, netB, a1, a2, h5, h2, h4]
                  · have h3' : (200 : Int) < vs.length := by omega
                    simp [kMO, kMV, h1', g1, h3', netB, h3]
                | dict _ => rw [gd_dict] at hb; exact hb.elim
                | _ => simp [kMO, h1', g1, netB]
            · have h1' : (40 : Int) < ns.length := by omega
              have : netB (.tuple [.tuple ns, b]) = false := by cases b <;> simp [netB, h1]
              simp [kMO, h1', this]
        | dict _ => rw [gd_dict] at ha; exact ha.elim
        | _ => simp [netB]
  | dict _ => rw [gd_dict] at hv; exact hv.elim
  | _ => simp [netB]
end C53
set_option maxRecDepth 100000
set_option maxHeartbeats 4000000
namespace C53
open PySem O
theorem network_due_ok {n k : Nat} (hn : n ≤ 4000) (hk : k ≤ 60) {v : D} (hv : gd n k v) : m__law_network_due [(.sh, v)] = .ok ((.sh, .bool (netB v)), []) := by
  unfold m__law_network_due b__law_network_due
  cases v with
  | tuple ds =>
    match ds, hv with
    | [], _ => simp [netB]
    | [a], _ => simp [netB]
    | a :: b :: c :: ds, _ =>
      have h : ¬ ((ds.length : Int) + 1 + 1 + 1 = 2) := by omega
      simp [netB, h]
    | [a, b], hv =>
      cases k with
      | zero => rw [gd_tup0] at hv; exact hv.elim
      | succ k =>
        rw [gd_tup] at hv
        have ha := hv.2 a (by simp)
        have hb := hv.2 b (by simp)
        cases a with
        | tuple ns =>
          cases b with
          | tuple vs =>
            cases k with
            | zero => rw [gd_tup0] at ha; exact ha.elim
            | succ k =>
              rw [gd_tup] at ha hb
              by_cases h1 : ns.length ≤ 40
              · have h1' : ¬ (40 : Int) < ns.length := by omega
                by_cases h3 : vs.length ≤ 200
                · have h3' : ¬ (200 : Int) < vs.length := by omega
                  have g1 : lcD [3] (gNm 3) ftYes b__law_network_due_E1 ns [] [some (.sh, .tuple [.tuple ns, .tuple vs]), some (.sh, .tuple ns), some (.sh, .tuple vs), none, none, none] = .ok (ns.map fun d => .bool (nameB d), [some (.sh, .tuple [.tuple ns, .tuple vs]), some (.sh, .tuple ns), some (.sh, .tuple vs), none, none, none]) :=
                    lc_map2 (fun d => .bool (nameB d)) (fun d hd => by
                      have := law_is_name_ok (by omega) (ha.2 d hd)
                      simp [itD, b__law_network_due_E1, this]) (by omega)
                  have l1 := all_map (ds := ns) (f := nameB)
                  cases h2 : ns.all nameB with
                  | false => rw [h2] at l1; simp [h1', h3', g1, l1, netB, h2]
                  | true =>
                    rw [h2] at l1
                    have lk := likes_names h2
                    have r1 := rng_m1 (m := .sh) (n := ns.length) (by omega)
                    have g2 : lcD [4] (gNm 4) ftYes b__law_network_due_E2 (natsD (ns.length - 1)) [] [some (.sh, .tuple [.tuple ns, .tuple vs]), some (.sh, .tuple ns), some (.sh, .tuple vs), none, none, none] = .ok ((natsD (ns.length - 1)).map fun d => .bool (ascAt ns d), [some (.sh, .tuple [.tuple ns, .tuple vs]), some (.sh, .tuple ns), some (.sh, .tuple vs), none, none, none]) :=
                      lc_map2 (fun d => .bool (ascAt ns d)) (fun d hd => by
                        obtain ⟨i, hi, rfl⟩ := mem_natsD hd
                        have q1 := ix_tup (m := .sh) (l := ns) (i := i) (by omega)
                        have q2 := ix_tup1 (m := .sh) (l := ns) (i := i) (by omega)
                        have q3 := lk.lt (i := i) (by omega) (m := .sh) (n := .sh)
                        simp [itD, b__law_network_due_E2, q1, q2, q3]) (by simp; omega)
                    have l2 := all_map (ds := natsD (ns.length - 1)) (f := ascAt ns)
                    change semAll _ = .ok (.sh, .bool (ascD ns)) at l2
                    cases h4 : ascD ns with
                    | false => rw [h4] at l2; simp [h1', h3', g1, l1, r1, g2, l2, netB, h4]
                    | true =>
                      rw [h4] at l2
                      have g3 : lcD [5] (gNm 5) ftYes b__law_network_due_E3 vs [] [some (.sh, .tuple [.tuple ns, .tuple vs]), some (.sh, .tuple ns), some (.sh, .tuple vs), none, none, none] = .ok (vs.map fun d => .bool (vanB ns d), [some (.sh, .tuple [.tuple ns, .tuple vs]), some (.sh, .tuple ns), some (.sh, .tuple vs), none, none, none]) :=
                        lc_map2 (fun d => .bool (vanB ns d)) (fun d hd => by
                          have := law_is_van_ok ha.2 (by omega) (hb.2 d hd)
                          simp [itD, b__law_network_due_E3, this]) (by omega)
                      have l3 := all_map (ds := vs) (f := vanB ns)
                      cases h5 : vs.all (vanB ns) with
                      | false => rw [h5] at l3; simp [h1', h3', g1, l1, r1, g2, l2, g3, l3, netB, h5]
                      | true =>
                        rw [h5] at l3
                        have lk2 := likes_vans h5
                        have r2 := rng_m1 (m := .sh) (n := vs.length) (by omega)
                        have g4 : lcD [4] (gNm 4) ftYes b__law_network_due_E4 (natsD (vs.length - 1)) [] [some (.sh, .tuple [.tuple ns, .tuple vs]), some (.sh, .tuple ns), some (.sh, .tuple vs), none, none, none] = .ok ((natsD (vs.length - 1)).map fun d => .bool (ascAt vs d), [some (.sh, .tuple [.tuple ns, .tuple vs]), some (.sh, .tuple ns), some (.sh, .tuple vs), none, none, none]) :=
                          lc_map2 (fun d => .bool (ascAt vs d)) (fun d hd => by
                            obtain ⟨i, hi, rfl⟩ := mem_natsD hd
                            have q1 := ix_tup (m := .sh) (l := vs) (i := i) (by omega)
                            have q2 := ix_tup1 (m := .sh) (l := vs) (i := i) (by omega)
                            have q3 := lk2.lt (i := i) (by omega) (m := .sh) (n := .sh)
                            simp [itD, b__law_network_due_E4, q1, q2, q3]) (by simp; omega)
                        have l4 := all_map (ds := natsD (vs.length - 1)) (f := ascAt vs)
                        change semAll _ = .ok (.sh, .bool (ascD vs)) at l4
                        simp [h1, h3, h1', h3', g1, l1, r1, g2, l2, g3, l3, r2, g4, l4, netB, h2, h4, h5]
                · have h3' : (200 : Int) < vs.length := by omega
                  simp [h1', h3', netB, h3]
              · have h1' : (40 : Int) < ns.length := by omega
                simp [h1', netB, h1]
          | dict _ => rw [gd_dict] at hb; exact hb.elim
          | _ => simp [netB]
        | dict _ => rw [gd_dict] at ha; exact ha.elim
        | _ => simp [netB]
  | dict _ => rw [gd_dict] at hv; exact hv.elim
  | _ => simp [netB]
end C53
set_option maxRecDepth 100000
set_option maxHeartbeats 4000000
/-! rules for dicts, places, sums -/
namespace O
open PySem
theorem putD_ok {i : Nat} {o : FO} {f : FE} {S : SS} {ds : List (D × D)} {d : D} {t : Tk} {m : Md} {x : Str} (h1 : f S = .ok ((.sh, d), S)) (h2 : S[i]? = some (some (.dk, .dict ds))) (h3 : o S = .ok (t, S)) (h4 : tkGet t S = .ok (m, .str x)) (h5 : ds.length < 1000000) :
    sDPutD i o f S = .ok (.nx, S.set i (some (.dk, .dict (dicPut ds (.inr x) d)))) := by
  have e : dicAt S i = .ok ds := by unfold dicAt; rw [h2]
  unfold sDPutD
  rw [h1, ex_bind]
  dsimp only
  rw [give_sh, ex_bind, e, ex_bind, h3, ex_bind]
  dsimp only
  rw [e, ex_bind, h4, ex_bind]
  show (keyM (.str x) >>= _) = _
  rw [show keyM (.str x) = .ok (.inr x) from rfl, ex_bind, if_pos h5]
  rfl
theorem dgetD_ok {i : Nat} {o : FO} {S : SS} {ds : List (D × D)} {d : D} {t : Tk} {m : Md} {x : Str} (h2 : S[i]? = some (some (.dk, .dict ds))) (h3 : o S = .ok (t, S)) (h4 : tkGet t S = .ok (m, .str x)) (h5 : dicGet ds (.inr x) = some d) :
    fDGet i o S = .ok ((.sh, d), S) := by
  have e : dicAt S i = .ok ds := by unfold dicAt; rw [h2]
  unfold fDGet
  rw [e, ex_bind, h3, ex_bind]
  dsimp only
  rw [e, ex_bind, h4, ex_bind]
  show (keyM (.str x) >>= _) = _
  rw [show keyM (.str x) = .ok (.inr x) from rfl, ex_bind, h5]
  rfl
@[simp] theorem dic0_ok {S : SS} : fDic0 S = .ok ((.dk, .dict []), S) := (rfl)
theorem isKey_str {x y : Str} : isKey (.inr x) (.str y) = decide (y = x) := by
  have h := isKey_enc (.inr x) (.inr y)
  rw [show isKey (.inr x) (.str y) = isKey (.inr x) (encK (.inr y)) from rfl, h]
  simp
theorem find_map_key {ds : List (D × D)} {k j : L2.Key} {d : D} : dicGet (ds.map fun p => if isKey k p.1 then (p.1, d) else p) j = if j = k then (if (ds.any fun p => isKey k p.1) then some d else none) else dicGet ds j := by
  unfold dicGet
  induction ds with
  | nil => simp
  | cons p ds ih =>
    rw [List.map_cons, List.find?_cons, List.find?_cons, List.any_cons]
    by_cases hp : isKey k p.1 = true
    · rw [if_pos hp, hp]
      by_cases hj : j = k
      · subst hj
        rw [hp]
        simp
      · have : isKey j p.1 = false := by
          unfold isKey at hp ⊢
          have e := of_decide_eq_true hp
          rw [e]
          exact decide_eq_false fun q => hj (Option.some.inj q).symm
        dsimp only
        rw [this, ih, if_neg hj]
        simp [hj]
    · have hp' : isKey k p.1 = false := by simpa using hp
      rw [if_neg hp, hp']
      by_cases hj : j = k
      · subst hj
        rw [hp', ih, Bool.false_or]
      · cases h : isKey j p.1 with
        | true => simp [hj]
        | false => rw [ih]; simp [hj]
theorem dicGet_none {ds : List (D × D)} {k : L2.Key} (h : (ds.any fun p => isKey k p.1) = false) : dicGet ds k = none := by
  unfold dicGet
  rw [List.find?_eq_none.mpr fun p hp => by
    have := List.any_eq_false.mp h p hp
    simpa using this]
  rfl
theorem dicGet_put {ds : List (D × D)} {k j : L2.Key} {d : D} : dicGet (dicPut ds k d) j = if j = k then some d else dicGet ds j := by
  unfold dicPut
  cases h : (ds.any fun p => isKey k p.1) with
  | true =>
    rw [if_pos rfl, find_map_key, h]
    simp
  | false =>
    rw [if_neg (by simp)]
    unfold dicGet
    rw [List.find?_append]
    by_cases hj : j = k
    · subst hj
      have := dicGet_none h
      unfold dicGet at this
      rw [Option.map_eq_none_iff] at this
      rw [this]
      simp [isKey_enc]
    · have : isKey j (encK k) = false := by rw [isKey_enc]; exact decide_eq_false fun q => hj q.symm
      simp [this, hj]
theorem dicPut_len {ds : List (D × D)} {k : L2.Key} {d : D} : (dicPut ds k d).length ≤ ds.length + 1 := by
  unfold dicPut
  split
  · rw [List.length_map]; omega
  · simp
/-! methods of tuples of texts -/
def k_fMvT_2 (sem : SemN) (f : FA) (t : Tk) (S1 : SS) : MV → M (MV × SS) := fun q => if strsR q then thenK (f S1) (k_fMvB sem t) else stk
@[simp] theorem k_fMvT_2_ok (sem : SemN) (f : FA) (t : Tk) (S1 : SS) {q : MV} : k_fMvT_2 sem f t S1 q = if strsR q then thenK (f S1) (k_fMvB sem t) else stk := (rfl)
def k_fMvT_1 (sem : SemN) (f : FA) : Tk × SS → M (MV × SS) := fun (t, S1) => thenK (tkGet t S1) (k_fMvT_2 sem f t S1)
@[simp] theorem k_fMvT_1_ok (sem : SemN) (f : FA) {t : Tk} {S1 : SS} : k_fMvT_1 sem f (t, S1) = thenK (tkGet t S1) (k_fMvT_2 sem f t S1) := (rfl)
@[simp] theorem u_fMvT {sem : SemN} {o : FO} {f : FA} {S : SS} : fMvT sem o f S = thenK (o S) (k_fMvT_1 sem f) := (rfl)
theorem strs_map {ys : List Str} (h : ys ≠ []) : strsD (ys.map .str) = true := by
  cases ys with
  | nil => exact absurd rfl h
  | cons y ys =>
    show (true && ((y :: ys).map PyData.str).all strD) = true
    rw [List.all_map, Bool.true_and, List.all_eq_true]
    intro x _
    rfl
theorem strsR_map {ys : List Str} (h : ys ≠ []) : strsR (.sh, .tuple (ys.map .str)) = true := strs_map h
/-! places -/
theorem augS_ok {i : Nat} {oi oe : FO} {sem : Sem2} {S : SS} {ds : List D} {t1 t2 : Tk} {m : Md} {j : Nat} {e r z : MV} (h1 : S[i]? = some (some (.ow .sh, .list ds))) (h2 : oi S = .ok (t1, S)) (h3 : tkGet t1 S = .ok (m, .int (j : Int))) (hj : j < ds.length) (h4 : oe S = .ok (t2, S)) (h5 : tkGet t2 S = .ok e) (h6 : sem (.sh, ds[j]) e = .ok r) (h7 : giveR r = .ok z) :
    sAugS i oi sem oe S = .ok (.nx, S.set i (some (.ow .sh, .list (ds.set j z.2)))) := by
  have e0 : lstAt S i = .ok ds := by unfold lstAt; rw [h1]
  have e1 : L2.ixN ds.length (j : Int) = some j := by
    unfold L2.ixN
    rw [if_pos (by omega), if_pos (by omega), Int.toNat_natCast]
  unfold sAugS
  rw [e0, ex_bind, h2, ex_bind]
  dsimp only
  rw [e0, ex_bind, h3, ex_bind]
  dsimp only
  rw [atI_nat, List.getElem?_eq_getElem hj]
  dsimp only
  rw [h4, ex_bind]
  dsimp only
  rw [h5, ex_bind, h6, ex_bind, h7, ex_bind, e0, ex_bind, e1]
  rfl
theorem gIxs_ok {i : Nat} {oi : FO} {S : SS} {ds : List D} {t1 : Tk} {m : Md} {j : Nat} {r z : MV} (h7 : giveR r = .ok z) (h1 : S[i]? = some (some (.ow .sh, .list ds))) (h2 : oi S = .ok (t1, S)) (h3 : tkGet t1 S = .ok (m, .int (j : Int))) (hj : j < ds.length) :
    gIxs i oi r S = .ok (S.set i (some (.ow .sh, .list (ds.set j z.2)))) := by
  have e0 : lstAt S i = .ok ds := by unfold lstAt; rw [h1]
  have e1 : L2.ixN ds.length (j : Int) = some j := by
    unfold L2.ixN
    rw [if_pos (by omega), if_pos (by omega), Int.toNat_natCast]
  unfold gIxs
  rw [h7, ex_bind, e0, ex_bind, h2, ex_bind]
  dsimp only
  rw [e0, ex_bind, h3, ex_bind]
  dsimp only
  rw [e1]
  rfl
theorem ints_ok (l : List Int) : intsOf (l.map .int) = .ok l := by
  induction l with
  | nil => rfl
  | cons x l ih =>
    rw [List.map_cons, intsOf, ih]
    rfl
theorem sum_tup {l : List Int} : semSumT [(.sh, .tuple (l.map .int))] = .ok (.sh, .int l.sum) := by
  show (intsOf (l.map .int) >>= _) = _
  rw [ints_ok]
  rfl
theorem sum_ow {l : List Int} : semSumT [(.ow .sh, .list (l.map .int))] = .ok (.sh, .int l.sum) := by
  show (kidsL (.ow .sh, .list (l.map .int)) >>= fun ds => intsOf ds >>= _) = _
  rw [show kidsL (.ow .sh, .list (l.map .int)) = .ok (l.map .int) from rfl, ex_bind, ints_ok]
  rfl
theorem mul_rep {xs : List D} {n : Nat} {m : Md} (h : xs.length * n ≤ 1000000) (hn : n ≤ 1000000) : semMul (.ow .sh, .list xs) (m, .int (n : Int)) = .ok (.ow .sh, .list (List.replicate n xs).flatten) := by
  show (kids (.ow .sh, .list xs) >>= _) = _
  rw [show kids (.ow .sh, .list xs) = .ok xs from rfl, ex_bind, if_pos ⟨by omega, by omega, by rw [Int.toNat_natCast]; exact Nat.le_trans h (by decide)⟩, Int.toNat_natCast]
theorem rep_one {d : D} {n : Nat} {m : Md} (hn : n ≤ 1000000) : semMul (.ow .sh, .list [d]) (m, .int (n : Int)) = .ok (.ow .sh, .list (List.replicate n d)) := by
  rw [mul_rep (by simpa using hn) hn]
  congr 3
  induction n with
  | zero => rfl
  | succ n ih => rw [List.replicate_succ, List.flatten_cons, ih (by omega)]; rfl
/-! equal data -/
theorem eqv_ints : ∀ (l r : List Int), PyData.eqvAll (l.map .int) (r.map .int) = decide (l = r)
  | [], [] => by simp [PyData.eqvAll]
  | [], y :: ys => by simp [PyData.eqvAll]
  | x :: xs, [] => by simp [PyData.eqvAll]
  | x :: xs, y :: ys => by
    rw [List.map_cons, List.map_cons, PyData.eqvAll, eqv_ints xs ys, PyData.eqv]
    rw [Bool.eq_iff_iff]
    simp
theorem shaped_ints (l : List Int) : SeqAt.shaped (.list (l.map .int)) = true ∧ SeqAt.shaped (.tuple (l.map .int)) = true := by
  have h1 : PyData.canLayAll0 (l.map .int) = true := canAll fun d hd => by
    obtain ⟨i, _, rfl⟩ := List.mem_map.mp hd
    simp [PyData.canLay0]
  have h2 : PyData.depthAll (l.map .int) ≤ 0 := depAll fun d hd => by
    obtain ⟨i, _, rfl⟩ := List.mem_map.mp hd
    simp [PyData.depth]
  unfold SeqAt.shaped
  simp only [PyData.canLay0, PyData.depth, h1, Bool.true_and]
  exact ⟨decide_eq_true (by omega), decide_eq_true (by omega)⟩
theorem eq_lists {m n : Md} {l r : List Int} : semEq (m, .list (l.map .int)) (n, .list (r.map .int)) = .ok (.sh, .bool (decide (l = r))) := by
  unfold semEq eqOk
  dsimp only
  rw [if_pos (by rw [(shaped_ints l).1, (shaped_ints r).1]; rfl), PyData.eqv, eqv_ints]
theorem eq_tups {m n : Md} {l r : List Int} : semEq (m, .tuple (l.map .int)) (n, .tuple (r.map .int)) = .ok (.sh, .bool (decide (l = r))) := by
  unfold semEq eqOk
  dsimp only
  rw [if_pos (by rw [(shaped_ints l).2, (shaped_ints r).2]; rfl), PyData.eqv, eqv_ints]
end O
set_option maxRecDepth 100000
set_option maxHeartbeats 4000000
namespace C53
open PySem O
structure Van where
  a : Str
  b : Str
  r : Int
  c : Int
def dV (v : Van) : D := .tuple [.str v.a, .str v.b, .int v.r, .int v.c]
def dNet (ys : List Str) (vs : List Van) : D := .tuple [.tuple (ys.map .str), .tuple (vs.map dV)]
def ix (ys : List Str) (a : Str) : Nat := ys.findIdx (fun y => decide (y = a))
theorem ix_lt {ys : List Str} {a : Str} (h : a ∈ ys) : ix ys a < ys.length := List.findIdx_lt_length_of_exists ⟨a, h, by simp⟩
theorem ix_cons {ys : List Str} {y a : Str} : ix (y :: ys) a = if y = a then 0 else ix ys a + 1 := by
  unfold ix
  rw [List.findIdx_cons]
  by_cases h : y = a <;> simp [h]
def dN (ys : List Str) (v : Van) : D := .tuple [.int (ix ys v.a : Nat), .int (ix ys v.b : Nat), .int v.r, .int v.c]
theorem numLoop (net : Option MV) : ∀ (ys : List Str) (k : Nat) (ds : List (D × D)) (x0 y0 : Option MV), ys.Nodup → ds.length + ys.length ≤ 100000 → ∃ ds' x y,
    forD (gTp 2 (gsCons (gNm 2) (gsCons (gNm 3) (gsNil)))) b_numbered_L1 (enFrom k (ys.map .str)) [net, some (.dk, .dict ds), x0, y0, none, none, none, none] = .ok (.nx, [net, some (.dk, .dict ds'), x, y, none, none, none, none]) ∧
    ∀ a, dicGet ds' (.inr a) = if a ∈ ys then some (.int (k + ix ys a : Nat)) else dicGet ds (.inr a)
  | [], k, ds, x0, y0, _, _ => ⟨ds, x0, y0, rfl, fun a => by simp⟩
  | y :: ys, k, ds, x0, y0, nd, hl => by
    rw [List.length_cons] at hl
    obtain ⟨n1, n2⟩ := List.nodup_cons.mp nd
    have hl2 := dicPut_len (ds := ds) (k := .inr y) (d := .int (k : Nat))
    obtain ⟨ds', x, z, e, h⟩ := numLoop net ys (k + 1) (dicPut ds (.inr y) (.int (k : Nat))) (some (.sh, .int (k : Nat))) (some (.sh, .str y)) n2 (by omega)
    refine ⟨ds', x, z, ?_, fun a => ?_⟩
    · rw [List.map_cons, enFrom, forD]
      have b1 : b_numbered_L1 [net, some (.dk, .dict ds), some (.sh, .int (k : Nat)), some (.sh, .str y), none, none, none, none] = .ok (.nx, [net, some (.dk, .dict (dicPut ds (.inr y) (.int (k : Nat)))), some (.sh, .int (k : Nat)), some (.sh, .str y), none, none, none, none]) :=
        putD_ok (t := .slot 3) (m := .sh) (by simp) rfl (by simp) (by simp) (by omega)
      simp [b1]
      exact e
    · rw [h a, ix_cons]
      by_cases ha : a = y
      · subst ha
        rw [if_neg n1, dicGet_put, if_pos rfl, if_pos List.mem_cons_self, if_pos rfl]
        rfl
      · have : ¬ y = a := fun q => ha q.symm
        rw [if_neg this]
        by_cases hm : a ∈ ys
        · rw [if_pos hm, if_pos (List.mem_cons_of_mem _ hm)]
          congr 2
          omega
        · rw [if_neg hm, if_neg (by simp [ha, hm]), dicGet_put, if_neg (by simp [ha])]
/-- what a law's networks are -/
structure Net (ys : List Str) (vs : List Van) : Prop where
  nd : ys.Nodup
  ly : ys.length ≤ 4000
  lv : vs.length ≤ 4000
  ha : ∀ v ∈ vs, v.a ∈ ys
  hb : ∀ v ∈ vs, v.b ∈ ys
theorem numbered_ok {ys : List Str} {vs : List Van} (N : Net ys vs) : m_numbered [(.sh, dNet ys vs)] = .ok ((.ow .sh, .list (vs.map (dN ys))), []) := by
  unfold m_numbered b_numbered dNet
  obtain ⟨ds', x, y, e, h⟩ := numLoop (some (.sh, .tuple [.tuple (ys.map .str), .tuple (vs.map dV)])) ys 0 [] none none N.nd (by have := N.ly; simp; omega)
  have he : enumOf [(.sh, .tuple (ys.map PyData.str))] = .ok (enFrom 0 (ys.map .str)) := enum_sh
  have hc : lcD [4, 5, 6, 7] (gTp 4 (gsCons (gNm 4) (gsCons (gNm 5) (gsCons (gNm 6) (gsCons (gNm 7) (gsNil)))))) ftYes b_numbered_E1 (vs.map dV) [] [some (.sh, .tuple [.tuple (ys.map .str), .tuple (vs.map dV)]), some (.dk, .dict ds'), x, y, none, none, none, none] = .ok (vs.map (dN ys), [some (.sh, .tuple [.tuple (ys.map .str), .tuple (vs.map dV)]), some (.dk, .dict ds'), x, y, none, none, none, none]) := by
    have := lc_map2 (vs := [4, 5, 6, 7]) (g := gTp 4 (gsCons (gNm 4) (gsCons (gNm 5) (gsCons (gNm 6) (gsCons (gNm 7) (gsNil)))))) (te := b_numbered_E1) (S0 := [some (.sh, .tuple [.tuple (ys.map .str), .tuple (vs.map dV)]), some (.dk, .dict ds'), x, y, none, none, none, none]) (ds := vs.map dV) (fun d => match d with
      | .tuple [.str a, .str b, r, c] => .tuple [.int (ix ys a : Nat), .int (ix ys b : Nat), r, c]
      | d => d) (fun d hd => by
        obtain ⟨v, hv, rfl⟩ := List.mem_map.mp hd
        have h1 := h v.a
        rw [if_pos (N.ha v hv), Nat.zero_add] at h1
        have h2 := h v.b
        rw [if_pos (N.hb v hv), Nat.zero_add] at h2
        have g1 : ∀ S : SS, S[1]? = some (some (.dk, .dict ds')) → oP 4 S = .ok (.slot 4, S) → tkGet (.slot 4) S = .ok (.sh, .str v.a) → fDGet 1 (oP 4) S = .ok ((.sh, .int (ix ys v.a : Nat)), S) := fun S q1 q2 q3 => dgetD_ok q1 q2 q3 h1
        have g2 : ∀ S : SS, S[1]? = some (some (.dk, .dict ds')) → oP 5 S = .ok (.slot 5, S) → tkGet (.slot 5) S = .ok (.sh, .str v.b) → fDGet 1 (oP 5) S = .ok ((.sh, .int (ix ys v.b : Nat)), S) := fun S q1 q2 q3 => dgetD_ok q1 q2 q3 h2
        simp [itD, b_numbered_E1, dV, g1, g2]) (by have := N.lv; simp; omega)
    rw [this, List.map_map]
    rfl
  simp [he, e, hc]
end C53
set_option maxRecDepth 100000
set_option maxHeartbeats 4000000
namespace C53
open PySem O
def ad (l : List Int) (i : Nat) (p : Int) : List Int := l.set i (l.getD i 0 + p)
theorem ad_len {l : List Int} {i : Nat} {p : Int} : (ad l i p).length = l.length := by simp [ad]
def goneL (ys : List Str) : List Van → List Int → List Int → List Int
  | v :: vs, p :: ps, l => goneL ys vs ps (ad (ad l (ix ys v.a) p) (ix ys v.b) (-p))
  | _, _, l => l
theorem ad_map {l : List Int} {i : Nat} (h : i < l.length) (p : Int) : (l.map PyData.int).set i (.int (l[i] + p)) = (ad l i p).map .int := by
  unfold ad
  rw [List.map_set, List.getD_eq_getElem?_getD, List.getElem?_eq_getElem h]
  rfl
theorem goneLoop {ys : List Str} (net : Option MV) (P : List Int) : ∀ (vs : List Van) (k : Nat) (l : List Int) (x3 x4 x5 x6 x7 : Option MV), (∀ v ∈ vs, ix ys v.a < l.length ∧ ix ys v.b < l.length) → P.length = k + vs.length → ∃ y3 y4 y5 y6 y7,
    forD (gTp 2 (gsCons (gNm 3) (gsCons (gTp 4 (gsCons (gNm 4) (gsCons (gNm 5) (gsCons (gNm 6) (gsCons (gNm 7) (gsNil)))))) (gsNil)))) b_gone_L1 (enFrom k (vs.map (dN ys))) [net, some (.sh, .tuple (P.map .int)), some (.ow .sh, .list (l.map .int)), x3, x4, x5, x6, x7] = .ok (.nx, [net, some (.sh, .tuple (P.map .int)), some (.ow .sh, .list ((goneL ys vs (P.drop k) l).map .int)), y3, y4, y5, y6, y7])
  | [], k, l, x3, x4, x5, x6, x7, _, _ => ⟨x3, x4, x5, x6, x7, rfl⟩
  | v :: vs, k, l, x3, x4, x5, x6, x7, h, hp => by
    rw [List.length_cons] at hp
    obtain ⟨ha, hb⟩ := h v List.mem_cons_self
    have hk : k < P.length := by omega
    have hd : P.drop k = P[k] :: P.drop (k + 1) := List.drop_eq_getElem_cons hk
    obtain ⟨y3, y4, y5, y6, y7, e⟩ := goneLoop net P vs (k + 1) (ad (ad l (ix ys v.a) P[k]) (ix ys v.b) (-P[k])) (some (.sh, .int (k : Nat))) (some (.sh, .int (ix ys v.a : Nat))) (some (.sh, .int (ix ys v.b : Nat))) (some (.sh, .int v.r)) (some (.sh, .int v.c)) (fun w hw => by
      rw [ad_len, ad_len]
      exact h w (List.mem_cons_of_mem _ hw)) (by omega)
    refine ⟨y3, y4, y5, y6, y7, ?_⟩
    rw [hd, goneL]
    rw [List.map_cons, enFrom, forD]
    have hx : ∀ m, semIx (.sh, .tuple (P.map .int)) (m, .int (k : Int)) = .ok (.sh, .int P[k]) := fun m => by
      rw [ix_tup (by simpa using hk), List.getElem_map]
    have b1 : b_gone_L1 [net, some (.sh, .tuple (P.map .int)), some (.ow .sh, .list (l.map .int)), some (.sh, .int (k : Nat)), some (.sh, .int (ix ys v.a : Nat)), some (.sh, .int (ix ys v.b : Nat)), some (.sh, .int v.r), some (.sh, .int v.c)] = .ok (.nx, [net, some (.sh, .tuple (P.map .int)), some (.ow .sh, .list ((ad (ad l (ix ys v.a) P[k]) (ix ys v.b) (-P[k])).map .int)), some (.sh, .int (k : Nat)), some (.sh, .int (ix ys v.a : Nat)), some (.sh, .int (ix ys v.b : Nat)), some (.sh, .int v.r), some (.sh, .int v.c)]) := by
      unfold b_gone_L1
      have e1 := augS_ok (i := 2) (oi := oP 4) (oe := oV (fOp2 semIx (oP 1) (oP 3))) (sem := semIAdd) (S := [net, some (.sh, .tuple (P.map .int)), some (.ow .sh, .list (l.map .int)), some (.sh, .int (k : Nat)), some (.sh, .int (ix ys v.a : Nat)), some (.sh, .int (ix ys v.b : Nat)), some (.sh, .int v.r), some (.sh, .int v.c)])
        (t1 := .slot 4) (t2 := .val (.sh, .int P[k])) (m := .sh) (j := ix ys v.a) (r := (.sh, .int (l[ix ys v.a] + P[k]))) (z := (.sh, .int (l[ix ys v.a] + P[k]))) (e := (.sh, .int P[k])) rfl (by simp) (by simp) (by simpa using ha) (by simp [hx]) (by simp) (by rw [List.getElem_map]; rfl) (by simp)
      have hb' : ix ys v.b < (ad l (ix ys v.a) P[k]).length := by rw [ad_len]; exact hb
      have e2 := augS_ok (i := 2) (oi := oP 5) (oe := oV (fOp2 semIx (oP 1) (oP 3))) (sem := semSub) (S := [net, some (.sh, .tuple (P.map .int)), some (.ow .sh, .list ((ad l (ix ys v.a) P[k]).map .int)), some (.sh, .int (k : Nat)), some (.sh, .int (ix ys v.a : Nat)), some (.sh, .int (ix ys v.b : Nat)), some (.sh, .int v.r), some (.sh, .int v.c)])
        (t1 := .slot 5) (t2 := .val (.sh, .int P[k])) (m := .sh) (j := ix ys v.b) (r := (.sh, .int ((ad l (ix ys v.a) P[k])[ix ys v.b] + -P[k]))) (z := (.sh, .int ((ad l (ix ys v.a) P[k])[ix ys v.b] + -P[k]))) (e := (.sh, .int P[k])) rfl (by simp) (by simp) (by simpa using hb') (by simp [hx]) (by simp) (by rw [List.getElem_map]; exact (sub_ok).trans (by rw [Int.sub_eq_add_neg])) (by simp)
      simp only [List.set_cons_succ, List.set_cons_zero] at e1 e2
      rw [ad_map ha] at e1
      rw [ad_map hb'] at e2
      rw [u_sSeq, e1]
      exact e2
    simp [dN, b1]
    exact e
theorem gone_ok {ys : List Str} {vs : List Van} (N : Net ys vs) {P : List Int} (hP : P.length = vs.length) : m_gone [(.sh, dNet ys vs), (.sh, .tuple (P.map .int))] = .ok ((.ow .sh, .list ((goneL ys vs P (List.replicate ys.length 0)).map .int)), []) := by
  unfold m_gone b_gone
  have h1 := numbered_ok N
  have hl := N.ly
  have hv := N.lv
  have hr : semMul (.ow .sh, .list [.int 0]) (.sh, .int (ys.length : Int)) = .ok (.ow .sh, .list ((List.replicate ys.length (0 : Int)).map .int)) := by
    rw [rep_one (by omega), List.map_replicate]
  obtain ⟨y3, y4, y5, y6, y7, e⟩ := goneLoop (ys := ys) (some (.sh, dNet ys vs)) P vs 0 (List.replicate ys.length 0) none none none none none (fun v h => by
    rw [List.length_replicate]
    exact ⟨ix_lt (N.ha v h), ix_lt (N.hb v h)⟩) (by omega)
  have he : enumOf [(.sh, .list (vs.map (dN ys)))] = .ok (enFrom 0 (vs.map (dN ys))) := enum_lst
  rw [List.drop_zero] at e
  unfold dNet at h1 e ⊢
  simp only [List.map_replicate] at hr e ⊢
  simp [-List.map_replicate, hr, h1, he, e]
end C53
set_option maxRecDepth 100000
set_option maxHeartbeats 4000000
namespace C53
open PySem O
theorem lgLoop {ys : List Str} (net : Option MV) (P : List Int) (V : List Van) (hV : ∀ v ∈ V, v.a ∈ ys ∧ v.b ∈ ys) : ∀ (n k : Nat) (l : List Int) (x5 : Option MV), l.length = ys.length → P.length = k + n → V.length = k + n → ∃ y5,
    forD (gNm 5) b__law_gone_L1 (natsFrom k n) [net, some (.sh, .tuple (P.map .int)), some (.sh, .tuple (ys.map .str)), some (.sh, .tuple (V.map dV)), some (.ow .sh, .list (l.map .int)), x5] = .ok (.nx, [net, some (.sh, .tuple (P.map .int)), some (.sh, .tuple (ys.map .str)), some (.sh, .tuple (V.map dV)), some (.ow .sh, .list ((goneL ys (V.drop k) (P.drop k) l).map .int)), y5])
  | 0, k, l, x5, _, hp, hv => ⟨x5, by
      rw [List.drop_of_length_le (by omega)]
      rfl⟩
  | n + 1, k, l, x5, hl, hp, hv => by
    have hk : k < P.length := by omega
    have hk2 : k < V.length := by omega
    have hd : P.drop k = P[k] :: P.drop (k + 1) := List.drop_eq_getElem_cons hk
    have hd2 : V.drop k = V[k] :: V.drop (k + 1) := List.drop_eq_getElem_cons hk2
    obtain ⟨ma, mb⟩ := hV V[k] (List.getElem_mem hk2)
    have ha : ix ys V[k].a < l.length := by rw [hl]; exact ix_lt ma
    have hb : ix ys V[k].b < l.length := by rw [hl]; exact ix_lt mb
    obtain ⟨y5, e⟩ := lgLoop net P V hV n (k + 1) (ad (ad l (ix ys V[k].a) P[k]) (ix ys V[k].b) (-P[k])) (some (.sh, .int (k : Nat))) (by rw [ad_len, ad_len]; exact hl) (by omega) (by omega)
    refine ⟨y5, ?_⟩
    rw [hd, hd2, goneL, natsFrom, forD]
    have hx : ∀ m, semIx (.sh, .tuple (P.map .int)) (m, .int (k : Int)) = .ok (.sh, .int P[k]) := fun m => by
      rw [ix_tup (by simpa using hk), List.getElem_map]
    have hy : ∀ m, semIx (.sh, .tuple (V.map dV)) (m, .int (k : Int)) = .ok (.sh, .tuple [.str V[k].a, .str V[k].b, .int V[k].r, .int V[k].c]) := fun m => by
      rw [ix_tup (by simpa using hk2), List.getElem_map]
      rfl
    have i1 := idx_ok (m := .sh) (ds := ys.map .str) rfl ma
    have i2 := idx_ok (m := .sh) (ds := ys.map .str) rfl mb
    change semIndexT _ = .ok (.sh, .int (ix ys V[k].a : Nat)) at i1
    change semIndexT _ = .ok (.sh, .int (ix ys V[k].b : Nat)) at i2
    have kt : strsR (.sh, .tuple (ys.map .str)) = true := strsR_map fun e => by rw [e] at ma; cases ma
    have f1 : ∀ m, semIx (.ow .sh, .list (l.map .int)) (m, .int (ix ys V[k].a : Nat)) = .ok (.sh, .int l[ix ys V[k].a]) := fun m => by
      rw [ix_ow (by simpa using ha), List.getElem_map]
    have hb' : ix ys V[k].b < (ad l (ix ys V[k].a) P[k]).length := by rw [ad_len]; exact hb
    have f2 : ∀ m, semIx (.ow .sh, .list ((ad l (ix ys V[k].a) P[k]).map .int)) (m, .int (ix ys V[k].b : Nat)) = .ok (.sh, .int (ad l (ix ys V[k].a) P[k])[ix ys V[k].b]) := fun m => by
      rw [ix_ow (by simpa using hb'), List.getElem_map]
    have b1 : b__law_gone_L1 [net, some (.sh, .tuple (P.map .int)), some (.sh, .tuple (ys.map .str)), some (.sh, .tuple (V.map dV)), some (.ow .sh, .list (l.map .int)), some (.sh, .int (k : Nat))] = .ok (.nx, [net, some (.sh, .tuple (P.map .int)), some (.sh, .tuple (ys.map .str)), some (.sh, .tuple (V.map dV)), some (.ow .sh, .list ((ad (ad l (ix ys V[k].a) P[k]) (ix ys V[k].b) (-P[k])).map .int)), some (.sh, .int (k : Nat))]) := by
      unfold b__law_gone_L1
      have e1 := gIxs_ok (i := 4) (oi := oV (fMvT semIndexT (oP 2) (aCons (oV (fOp2 semIx (oV (fOp2 semIx (oP 3) (oP 5))) (oV (fCon (.int 0))))) (aNil)))) (S := [net, some (.sh, .tuple (P.map .int)), some (.sh, .tuple (ys.map .str)), some (.sh, .tuple (V.map dV)), some (.ow .sh, .list (l.map .int)), some (.sh, .int (k : Nat))])
        (t1 := .val (.sh, .int (ix ys V[k].a : Nat))) (m := .sh) (j := ix ys V[k].a) (r := (.sh, .int (l[ix ys V[k].a] + P[k]))) (z := (.sh, .int (l[ix ys V[k].a] + P[k]))) (by simp) rfl (by simp [hy, kt, i1]) (by simp) (by simpa using ha)
      have e2 := gIxs_ok (i := 4) (oi := oV (fMvT semIndexT (oP 2) (aCons (oV (fOp2 semIx (oV (fOp2 semIx (oP 3) (oP 5))) (oV (fCon (.int 1))))) (aNil)))) (S := [net, some (.sh, .tuple (P.map .int)), some (.sh, .tuple (ys.map .str)), some (.sh, .tuple (V.map dV)), some (.ow .sh, .list ((ad l (ix ys V[k].a) P[k]).map .int)), some (.sh, .int (k : Nat))])
        (t1 := .val (.sh, .int (ix ys V[k].b : Nat))) (m := .sh) (j := ix ys V[k].b) (r := (.sh, .int ((ad l (ix ys V[k].a) P[k])[ix ys V[k].b] - P[k]))) (z := (.sh, .int ((ad l (ix ys V[k].a) P[k])[ix ys V[k].b] - P[k]))) (by simp) rfl (by simp [hy, kt, i2]) (by simp) (by simpa using hb')
      have q2 := ad_map hb' (-P[k])
      rw [← Int.sub_eq_add_neg] at q2
      simp only [List.set_cons_succ, List.set_cons_zero] at e1 e2
      rw [ad_map ha] at e1
      rw [q2] at e2
      rw [u_sSeq]
      have g1 : sAsg (gIxs 4 (oV (fMvT semIndexT (oP 2) (aCons (oV (fOp2 semIx (oV (fOp2 semIx (oP 3) (oP 5))) (oV (fCon (.int 0))))) (aNil))))) (fOp2 semAdd (oV (fOp2 semIx (oP 4) (oV (fMvT semIndexT (oP 2) (aCons (oV (fOp2 semIx (oV (fOp2 semIx (oP 3) (oP 5))) (oV (fCon (.int 0))))) (aNil)))))) (oV (fOp2 semIx (oP 1) (oP 5)))) [net, some (.sh, .tuple (P.map .int)), some (.sh, .tuple (ys.map .str)), some (.sh, .tuple (V.map dV)), some (.ow .sh, .list (l.map .int)), some (.sh, .int (k : Nat))] = .ok (.nx, [net, some (.sh, .tuple (P.map .int)), some (.sh, .tuple (ys.map .str)), some (.sh, .tuple (V.map dV)), some (.ow .sh, .list ((ad l (ix ys V[k].a) P[k]).map .int)), some (.sh, .int (k : Nat))]) := by
        simp [hy, kt, i1, f1, hx, e1]
      rw [g1, thenK_ok, k_sSeq_1_c0]
      simp [hy, kt, i2, f2, hx, e2]
    simp [b1]
    exact e
theorem law_gone_ok {ys : List Str} {vs : List Van} (N : Net ys vs) {P : List Int} (hP : P.length = vs.length) : m__law_gone [(.sh, dNet ys vs), (.sh, .tuple (P.map .int))] = .ok ((.sh, .tuple ((goneL ys vs P (List.replicate ys.length 0)).map .int)), []) := by
  unfold m__law_gone b__law_gone
  have hl := N.ly
  have hv := N.lv
  have hr : semMul (.ow .sh, .list [.int 0]) (.sh, .int (ys.length : Int)) = .ok (.ow .sh, .list ((List.replicate ys.length (0 : Int)).map .int)) := by
    rw [rep_one (by omega), List.map_replicate]
  obtain ⟨y5, e⟩ := lgLoop (ys := ys) (some (.sh, dNet ys vs)) P vs (fun v h => ⟨N.ha v h, N.hb v h⟩) vs.length 0 (List.replicate ys.length 0) none (by simp) (by omega) (by omega)
  have hg : onD rng1 [(.sh, .int (vs.length : Int))] = .ok (natsFrom 0 vs.length) := by rw [rng_ok4 hv, natsD_from]
  rw [List.drop_zero, List.drop_zero] at e
  unfold dNet at e ⊢
  simp only [List.map_replicate] at hr e ⊢
  simp [-List.map_replicate, hr, hg, e]
end C53
set_option maxRecDepth 100000
set_option maxHeartbeats 4000000
namespace C53
open PySem O
theorem all_ints {lo hi : Int} : ∀ {ds : List D}, ds.all (isNum lo hi) = true → ∃ l : List Int, ds = l.map .int ∧ ∀ i ∈ l, lo ≤ i ∧ i ≤ hi
  | [], _ => ⟨[], rfl, by simp⟩
  | d :: ds, h => by
    rw [List.all_cons, Bool.and_eq_true] at h
    obtain ⟨i, rfl, h1, h2⟩ := isNum_shape h.1
    obtain ⟨l, rfl, h3⟩ := all_ints h.2
    refine ⟨i :: l, rfl, fun j hj => ?_⟩
    rcases List.mem_cons.mp hj with rfl | hj
    · exact ⟨h1, h2⟩
    · exact h3 j hj
def sum0 (ds : List D) : Bool := match intsOf ds with
  | .ok l => decide (l.sum = 0)
  | _ => false
def loadB (n : Nat) : D → Bool
  | .tuple ds => decide (ds.length = n) && (ds.all (isNum (-200000) 200000) && sum0 ds)
  | _ => false
theorem kML : k_MAX_LOAD = .int 200000 := rfl
theorem lenEq {a b : Nat} : decide ((a : Int) = (b : Int)) = decide (a = b) := by
  rw [decide_eq_decide]; omega
theorem is_load_ok {n k : Nat} (hn : n ≤ 4000) {v : D} (hv : gd n k v) {ys : List Str} {vs : List Van} : m_is_load [(.sh, dNet ys vs), (.sh, v)] = .ok ((.sh, .bool (loadB ys.length v)), []) := by
  unfold m_is_load b_is_load dNet
  cases v with
  | tuple ds =>
    cases k with
    | zero => rw [gd_tup0] at hv; exact hv.elim
    | succ k =>
      rw [gd_tup] at hv
      by_cases h1 : ds.length = ys.length
      · have h1' : (ds.length : Int) = ys.length := by omega
        have g1 : gbD false [2] (gNm 2) ftYes b_is_load_E1 ds [some (.sh, .tuple [.tuple (ys.map .str), .tuple (vs.map dV)]), some (.sh, .tuple ds), none] = .ok (ds.all (isNum (-200000) 200000), [some (.sh, .tuple [.tuple (ys.map .str), .tuple (vs.map dV)]), some (.sh, .tuple ds), none]) :=
          gb_all1 _ fun d hd => by
            have := is_number_ok (hv.2 d hd) (-200000) 200000
            simp [itD, b_is_load_E1, kML, this]
        cases h2 : ds.all (isNum (-200000) 200000) with
        | false => rw [h2] at g1; simp [h1', g1, loadB, h2]
        | true =>
          rw [h2] at g1
          obtain ⟨l, rfl, _⟩ := all_ints h2
          have := sum_tup (l := l)
          have e : sum0 (l.map .int) = decide (l.sum = 0) := by unfold sum0; rw [ints_ok]
          rw [List.length_map] at h1 h1'
          simp [h1', g1, loadB, h2, this, e, h1]
      · have h1' : ¬ (ds.length : Int) = ys.length := by omega
        simp [h1', loadB, h1]
  | dict _ => rw [gd_dict] at hv; exact hv.elim
  | _ => simp [loadB]
theorem load_due_ok {n k : Nat} (hn : n ≤ 4000) {v : D} (hv : gd n k v) {ys : List Str} {vs : List Van} : m__law_load_due [(.sh, dNet ys vs), (.sh, v)] = .ok ((.sh, .bool (loadB ys.length v)), []) := by
  unfold m__law_load_due b__law_load_due dNet
  cases v with
  | tuple ds =>
    cases k with
    | zero => rw [gd_tup0] at hv; exact hv.elim
    | succ k =>
      rw [gd_tup] at hv
      by_cases h1 : ds.length = ys.length
      · have h1' : (ds.length : Int) = ys.length := by omega
        have g1 : lcD [2] (gNm 2) ftYes b__law_load_due_E1 ds [] [some (.sh, .tuple [.tuple (ys.map .str), .tuple (vs.map dV)]), some (.sh, .tuple ds), none] = .ok (ds.map fun d => .bool (isNum (-200000) 200000 d), [some (.sh, .tuple [.tuple (ys.map .str), .tuple (vs.map dV)]), some (.sh, .tuple ds), none]) :=
          lc_map2 (fun d => .bool (isNum (-200000) 200000 d)) (fun d hd => by
            have := whole_ok (hv.2 d hd) (-200000) 200000
            simp [itD, b__law_load_due_E1, this]) (by omega)
        have l1 := all_map (ds := ds) (f := isNum (-200000) 200000)
        cases h2 : ds.all (isNum (-200000) 200000) with
        | false => rw [h2] at l1; simp [h1', g1, l1, loadB, h2]
        | true =>
          rw [h2] at l1
          obtain ⟨l, rfl, _⟩ := all_ints h2
          have := sum_tup (l := l)
          have e : sum0 (l.map .int) = decide (l.sum = 0) := by unfold sum0; rw [ints_ok]
          rw [List.length_map] at h1 h1'
          simp only [List.map_map] at g1 l1
          simp [h1', g1, l1, loadB, h2, this, e, h1]
      · have h1' : ¬ (ds.length : Int) = ys.length := by omega
        simp [h1', loadB, h1]
  | dict _ => rw [gd_dict] at hv; exact hv.elim
  | _ => simp [loadB]
/-! plans -/
def roomAt (vs : List Van) (k : Nat) : Int := match vs[k]? with
  | some v => v.r
  | none => 0
def partAt (vs : List Van) (ds : List D) : D → Bool
  | .int i => match ds[i.toNat]? with
    | some d => isNum 0 (roomAt vs i.toNat) d
    | none => false
  | _ => false
def partsB (vs : List Van) (ds : List D) : Bool := (natsD vs.length).all (partAt vs ds)
def goneB (ys : List Str) (vs : List Van) (load : List Int) (ds : List D) : Bool := match intsOf ds with
  | .ok l => decide (goneL ys vs l (List.replicate ys.length 0) = load)
  | _ => false
def planB (ys : List Str) (vs : List Van) (load : List Int) : D → Bool
  | .tuple ds => decide (ds.length = vs.length) && (partsB vs ds && goneB ys vs load ds)
  | _ => false
theorem partAt_eq {vs : List Van} {ds : List D} {i : Nat} (h1 : i < vs.length) (h2 : i < ds.length) : partAt vs ds (.int (i : Nat)) = isNum 0 vs[i].r ds[i] := by
  show (match ds[((i : Nat) : Int).toNat]? with
    | some d => isNum 0 (roomAt vs ((i : Nat) : Int).toNat) d
    | none => false) = _
  rw [Int.toNat_natCast, List.getElem?_eq_getElem h2]
  unfold roomAt
  rw [List.getElem?_eq_getElem h1]
theorem parts_ints {vs : List Van} {ds : List D} (hl : ds.length = vs.length) (h : partsB vs ds = true) : ∃ l : List Int, ds = l.map .int := by
  have key : ∀ d ∈ ds, ∃ i, d = .int i := fun d hd => by
    obtain ⟨k, hk, rfl⟩ := List.mem_iff_getElem.mp hd
    have hm : (PyData.int (k : Nat)) ∈ natsD vs.length := by
      unfold natsD
      exact List.mem_map.mpr ⟨k, List.mem_range.mpr (by omega), rfl⟩
    have := List.all_eq_true.mp h _ hm
    rw [partAt_eq (by omega) hk] at this
    obtain ⟨i, e, _⟩ := isNum_shape this
    exact ⟨i, e⟩
  clear h hl
  induction ds with
  | nil => exact ⟨[], rfl⟩
  | cons d ds ih =>
    obtain ⟨i, rfl⟩ := key d List.mem_cons_self
    obtain ⟨l, rfl⟩ := ih fun x hx => key x (List.mem_cons_of_mem _ hx)
    exact ⟨i :: l, rfl⟩
theorem is_plan_ok {ys : List Str} {vs : List Van} (N : Net ys vs) {n k : Nat} (hn : n ≤ 4000) {v : D} (hv : gd n k v) (load : List Int) : m_is_plan [(.sh, dNet ys vs), (.sh, .tuple (load.map .int)), (.sh, v)] = .ok ((.sh, .bool (planB ys vs load v)), []) := by
  have hg := fun (P : List Int) (hP : P.length = vs.length) => gone_ok N hP
  have hlv := N.lv
  unfold m_is_plan b_is_plan
  unfold dNet at hg ⊢
  cases v with
  | tuple ds =>
    cases k with
    | zero => rw [gd_tup0] at hv; exact hv.elim
    | succ k =>
      rw [gd_tup] at hv
      by_cases h1 : ds.length = vs.length
      · have h1' : (ds.length : Int) = vs.length := by omega
        have hr : onD rng1 [(.sh, .int (vs.length : Int))] = .ok (natsD vs.length) := rng_ok4 hlv
        have g1 : gbD false [4] (gNm 4) ftYes b_is_plan_E1 (natsD vs.length) [some (.sh, .tuple [.tuple (ys.map .str), .tuple (vs.map dV)]), some (.sh, .tuple (load.map .int)), some (.sh, .tuple ds), some (.sh, .tuple (vs.map dV)), none] = .ok (partsB vs ds, [some (.sh, .tuple [.tuple (ys.map .str), .tuple (vs.map dV)]), some (.sh, .tuple (load.map .int)), some (.sh, .tuple ds), some (.sh, .tuple (vs.map dV)), none]) :=
          gb_all1 (partAt vs ds) fun d hd => by
            obtain ⟨i, hi, rfl⟩ := mem_natsD hd
            have q1 := ix_tup (m := .sh) (l := ds) (i := i) (by omega)
            have q2 : semIx (.sh, .tuple (vs.map dV)) (.sh, .int (i : Int)) = .ok (.sh, .tuple [.str vs[i].a, .str vs[i].b, .int vs[i].r, .int vs[i].c]) := by
              rw [ix_tup (by simpa using hi), List.getElem_map]
              rfl
            have q3 := is_number_ok (hv.2 ds[i] (List.getElem_mem (by omega))) 0 vs[i].r
            have q4 := partAt_eq (vs := vs) (ds := ds) hi (by omega)
            simp [itD, b_is_plan_E1, q1, q2, q3, q4]
        cases h2 : partsB vs ds with
        | false => rw [h2] at g1; simp [h1', hr, g1, planB, h2]
        | true =>
          rw [h2] at g1
          obtain ⟨l, rfl⟩ := parts_ints h1 h2
          rw [List.length_map] at h1 h1'
          have e1 := hg l h1
          have e2 := eq_lists (m := .ow .sh) (n := .ow .sh) (l := goneL ys vs l (List.replicate ys.length 0)) (r := load)
          have e3 : goneB ys vs load (l.map .int) = decide (goneL ys vs l (List.replicate ys.length 0) = load) := by unfold goneB; rw [ints_ok]
          simp [h1', hr, g1, planB, h2, e1, e2, e3, h1]
      · have h1' : ¬ (ds.length : Int) = vs.length := by omega
        simp [h1', planB, h1]
  | dict _ => rw [gd_dict] at hv; exact hv.elim
  | _ => simp [planB]
theorem plan_due_ok {ys : List Str} {vs : List Van} (N : Net ys vs) {n k : Nat} (hn : n ≤ 4000) {v : D} (hv : gd n k v) (load : List Int) : m__law_plan_due [(.sh, dNet ys vs), (.sh, .tuple (load.map .int)), (.sh, v)] = .ok ((.sh, .bool (planB ys vs load v)), []) := by
  have hg := fun (P : List Int) (hP : P.length = vs.length) => law_gone_ok N hP
  have hlv := N.lv
  unfold m__law_plan_due b__law_plan_due
  unfold dNet at hg ⊢
  cases v with
  | tuple ds =>
    cases k with
    | zero => rw [gd_tup0] at hv; exact hv.elim
    | succ k =>
      rw [gd_tup] at hv
      by_cases h1 : ds.length = vs.length
      · have h1' : (ds.length : Int) = vs.length := by omega
        have hr : onD rng1 [(.sh, .int (vs.length : Int))] = .ok (natsD vs.length) := rng_ok4 hlv
        have g1 : lcD [4] (gNm 4) ftYes b__law_plan_due_E1 (natsD vs.length) [] [some (.sh, .tuple [.tuple (ys.map .str), .tuple (vs.map dV)]), some (.sh, .tuple (load.map .int)), some (.sh, .tuple ds), some (.sh, .tuple (vs.map dV)), none] = .ok ((natsD vs.length).map fun d => .bool (partAt vs ds d), [some (.sh, .tuple [.tuple (ys.map .str), .tuple (vs.map dV)]), some (.sh, .tuple (load.map .int)), some (.sh, .tuple ds), some (.sh, .tuple (vs.map dV)), none]) :=
          lc_map2 (fun d => .bool (partAt vs ds d)) (fun d hd => by
            obtain ⟨i, hi, rfl⟩ := mem_natsD hd
            have q1 := ix_tup (m := .sh) (l := ds) (i := i) (by omega)
            have q2 : semIx (.sh, .tuple (vs.map dV)) (.sh, .int (i : Int)) = .ok (.sh, .tuple [.str vs[i].a, .str vs[i].b, .int vs[i].r, .int vs[i].c]) := by
              rw [ix_tup (by simpa using hi), List.getElem_map]
              rfl
            have q3 := whole_ok (hv.2 ds[i] (List.getElem_mem (by omega))) 0 vs[i].r
            have q4 := partAt_eq (vs := vs) (ds := ds) hi (by omega)
            simp [itD, b__law_plan_due_E1, q1, q2, q3, q4]) (by simp; omega)
        have l1 := all_map (ds := natsD vs.length) (f := partAt vs ds)
        change semAll _ = .ok (.sh, .bool (partsB vs ds)) at l1
        cases h2 : partsB vs ds with
        | false => rw [h2] at l1; simp [h1', hr, g1, l1, planB, h2]
        | true =>
          rw [h2] at l1
          obtain ⟨l, rfl⟩ := parts_ints h1 h2
          rw [List.length_map] at h1 h1'
          have e1 := hg l h1
          have e2 := eq_tups (m := .sh) (n := .sh) (l := goneL ys vs l (List.replicate ys.length 0)) (r := load)
          have e3 : goneB ys vs load (l.map .int) = decide (goneL ys vs l (List.replicate ys.length 0) = load) := by unfold goneB; rw [ints_ok]
          simp [h1', hr, g1, l1, planB, h2, e1, e2, e3, h1]
      · have h1' : ¬ (ds.length : Int) = vs.length := by omega
        simp [h1', planB, h1]
  | dict _ => rw [gd_dict] at hv; exact hv.elim
  | _ => simp [planB]
end C53
set_option maxRecDepth 100000
set_option maxHeartbeats 4000000
namespace C53
open PySem O
theorem bits_le (i : Int) : Builtin.Int.intBits i ≤ i.natAbs.log2 + 1 := by
  unfold Builtin.Int.intBits
  split <;> omega
theorem log_lt {i : Int} {n : Nat} (h : i.natAbs < 2 ^ n) : i.natAbs.log2 ≤ n := by
  by_cases h0 : i.natAbs = 0
  · rw [h0]; simp
  · exact Nat.le_of_lt ((Nat.log2_lt h0).mpr h)
theorem mulOk_of {i j : Int} {a b : Nat} (hi : i.natAbs < 2 ^ a) (hj : j.natAbs < 2 ^ b) (h : a + b ≤ 100000000) : MuOk i j := by
  have h1 := bits_le i
  have h2 := bits_le j
  have h3 := log_lt hi
  have h4 := log_lt hj
  unfold MuOk
  omega
/-! costs -/
def costL (vs : List Van) (P : List Int) : Int := ((vs.zip P).map fun p => p.1.c * p.2).sum
def mulP : D → Int
  | .tuple [.tuple [_, _, _, .int c], .int m] => c * m
  | _ => 0
theorem zip_ok {vs : List Van} {P : List Int} : zipOf [(.sh, .tuple (vs.map dV)), (.sh, .tuple (P.map .int))] = .ok ((vs.zip P).map fun p => .tuple [dV p.1, .int p.2]) := by
  have h : (vs.map dV).any strD = false := by
    rw [List.any_map, List.any_eq_false]
    intro v _
    simp [dV, strD]
  show (if _ then _ else _ : M (List D)) = _
  rw [if_pos (by rw [h]; rfl)]
  show Except.ok (((vs.map dV).zip (P.map .int)).map fun x => PyData.tuple [x.1, x.2]) = _
  rw [List.zip_map, List.map_map]
  rfl
theorem filt_true {α : Type} (l : List α) : l.filter (fun _ => true) = l := by simp
theorem cost_of_ok {ys : List Str} {vs : List Van} {P : List Int} (hc : ∀ v ∈ vs, v.c.natAbs < 2 ^ 1000) (hP : ∀ p ∈ P, p.natAbs < 2 ^ 1000) : m_cost_of [(.sh, dNet ys vs), (.sh, .tuple (P.map .int))] = .ok ((.sh, .int (costL vs P)), []) := by
  unfold m_cost_of b_cost_of dNet
  have g1 : gsD [2, 3] (gTp 2 (gsCons (gNm 2) (gsCons (gNm 3) (gsNil)))) ftYes b_cost_of_E1 ((vs.zip P).map fun p => PyData.tuple [dV p.1, .int p.2]) 0 [some (.sh, .tuple [.tuple (ys.map .str), .tuple (vs.map dV)]), some (.sh, .tuple (P.map .int)), none, none] = .ok (costL vs P, [some (.sh, .tuple [.tuple (ys.map .str), .tuple (vs.map dV)]), some (.sh, .tuple (P.map .int)), none, none]) := by
    have := gs_sum (vs := [2, 3]) (g := gTp 2 (gsCons (gNm 2) (gsCons (gNm 3) (gsNil)))) (tt := ftYes) (te := b_cost_of_E1) (p := fun _ => true) (f := mulP) (S0 := [some (.sh, .tuple [.tuple (ys.map .str), .tuple (vs.map dV)]), some (.sh, .tuple (P.map .int)), none, none]) (m := fun _ => .sh) (ds := (vs.zip P).map fun p => PyData.tuple [dV p.1, .int p.2]) (acc := 0) (fun d hd => by
      obtain ⟨p, hp, rfl⟩ := List.mem_map.mp hd
      have hm : MuOk p.1.c p.2 := mulOk_of (hc _ (List.of_mem_zip hp).1) (hP _ (List.of_mem_zip hp).2) (by omega)
      simp [itD, b_cost_of_E1, dV, hm, mulP])
    rw [this, filt_true, List.map_map, Int.zero_add]
    rfl
  simp [zip_ok, g1]
/-! rooms -/
theorem any_ints {l : List Int} {i : Int} : (l.map PyData.int).any (fun z => PyData.eqv z (.int i)) = decide (i ∈ l) := by
  rw [List.any_map, Bool.eq_iff_iff, List.any_eq_true, decide_eq_true_eq]
  constructor
  · rintro ⟨x, hx, e⟩
    have : x = i := by simpa [PyData.eqv] using e
    rw [← this]; exact hx
  · intro h
    exact ⟨i, h, by simp [PyData.eqv]⟩
theorem in_ints {m n : Md} {l : List Int} {i : Int} : semIn (m, .int i) (n, .tuple (l.map .int)) = .ok (.sh, .bool (decide (i ∈ l))) := by
  rw [in_tup (shaped_int i) (shaped_ints l).2, any_ints]
theorem notin_ints {m n : Md} {l : List Int} {i : Int} : semNotIn (m, .int i) (n, .tuple (l.map .int)) = .ok (.sh, .bool (!decide (i ∈ l))) := by
  rw [notin_tup (shaped_int i) (shaped_ints l).2, any_ints]
def outV (ys : List Str) (l : List Int) (v : Van) : Bool := decide (((ix ys v.a : Nat) : Int) ∈ l) && !decide (((ix ys v.b : Nat) : Int) ∈ l)
def roomL (ys : List Str) (vs : List Van) (l : List Int) : Int := ((vs.filter (outV ys l)).map (·.r)).sum
def outD (l : List Int) : D → Bool
  | .tuple [.int a, .int b, _, _] => decide (a ∈ l) && !decide (b ∈ l)
  | _ => false
def roomD : D → Int
  | .tuple [_, _, .int r, _] => r
  | _ => 0
theorem room_out_ok {ys : List Str} {vs : List Van} (N : Net ys vs) (l : List Int) : m_room_out [(.sh, dNet ys vs), (.sh, .tuple (l.map .int))] = .ok ((.sh, .int (roomL ys vs l)), []) := by
  have hn := numbered_ok N
  unfold m_room_out b_room_out
  unfold dNet at hn ⊢
  have g1 : gsD [2, 3, 4, 5] (gTp 4 (gsCons (gNm 2) (gsCons (gNm 3) (gsCons (gNm 4) (gsCons (gNm 5) (gsNil)))))) b_room_out_T1 b_room_out_E1 (vs.map (dN ys)) 0 [some (.sh, .tuple [.tuple (ys.map .str), .tuple (vs.map dV)]), some (.sh, .tuple (l.map .int)), none, none, none, none] = .ok (roomL ys vs l, [some (.sh, .tuple [.tuple (ys.map .str), .tuple (vs.map dV)]), some (.sh, .tuple (l.map .int)), none, none, none, none]) := by
    have := gs_sum (vs := [2, 3, 4, 5]) (g := gTp 4 (gsCons (gNm 2) (gsCons (gNm 3) (gsCons (gNm 4) (gsCons (gNm 5) (gsNil)))))) (tt := b_room_out_T1) (te := b_room_out_E1) (p := outD l) (f := roomD) (S0 := [some (.sh, .tuple [.tuple (ys.map .str), .tuple (vs.map dV)]), some (.sh, .tuple (l.map .int)), none, none, none, none]) (m := fun _ => .sh) (ds := vs.map (dN ys)) (acc := 0) (fun d hd => by
      obtain ⟨v, hv, rfl⟩ := List.mem_map.mp hd
      have i1 := in_ints (m := .sh) (n := .sh) (l := l) (i := (ix ys v.a : Nat))
      have i2 := notin_ints (m := .sh) (n := .sh) (l := l) (i := (ix ys v.b : Nat))
      by_cases h1 : ((ix ys v.a : Nat) : Int) ∈ l
      · by_cases h2 : ((ix ys v.b : Nat) : Int) ∈ l
        · simp [itD, b_room_out_T1, b_room_out_E1, dN, outD, i1, i2, h1, h2]
        · simp [itD, b_room_out_T1, b_room_out_E1, dN, outD, roomD, i1, i2, h1, h2]
      · simp [itD, b_room_out_T1, b_room_out_E1, dN, outD, i1, i2, h1])
    rw [this, List.filter_map, List.map_map, Int.zero_add]
    rfl
  simp [hn, g1]
end C53
set_option maxRecDepth 100000
set_option maxHeartbeats 4000000
/-! sorted(set(..)), sorted(..), ranges -/
namespace O
open PySem
def k_fSSD_3 (S1 : SS) : List D → M (MV × SS) := fun z => .ok ((.ow .sh, .list z), S1)
@[simp] theorem k_fSSD_3_ok (S1 : SS) {z : List D} : k_fSSD_3 S1 z = .ok ((.ow .sh, .list z), S1) := (rfl)
def k_fSSD_2 (S1 : SS) : List D → M (MV × SS) := fun ds => thenK (semSortSet ds) (k_fSSD_3 S1)
@[simp] theorem k_fSSD_2_ok (S1 : SS) {ds : List D} : k_fSSD_2 S1 ds = thenK (semSortSet ds) (k_fSSD_3 S1) := (rfl)
def k_fSSD_1 : MV × SS → M (MV × SS) := fun (r, S1) => thenK (kids r) (k_fSSD_2 S1)
@[simp] theorem k_fSSD_1_ok {r : MV} {S1 : SS} : k_fSSD_1 (r, S1) = thenK (kids r) (k_fSSD_2 S1) := (rfl)
@[simp] theorem u_fSSD {f : FE} {S : SS} : fSortSetD f S = thenK (f S) k_fSSD_1 := (rfl)
@[simp] theorem kids_sh {ds : List D} : kids (.sh, .list ds) = .ok ds := (rfl)
@[simp] theorem kids_tup {ds : List D} : kids (.sh, .tuple ds) = .ok ds := (rfl)
@[simp] theorem kids_ow {ds : List D} : kids (.ow .sh, .list ds) = .ok ds := (rfl)
def k_fRg1 (tup : Bool) : MV × SS → M (MV × SS) := fun (r, S1) => match r.2 with
  | .int n => if decide (-1000000 ≤ n) && decide (n ≤ 1000000) then (if tup then .ok ((.sh, .tuple (rangeD 0 1 n.toNat)), S1) else .ok ((.ow .sh, .list (rangeD 0 1 n.toNat)), S1)) else stk
  | _ => stk
@[simp] theorem u_fRg1 {tup : Bool} {f : FE} {S : SS} : fRg1 tup f S = thenK (f S) (k_fRg1 tup) := (rfl)
theorem k_fRg1_t {m : Md} {n : Nat} {S1 : SS} (h : n ≤ 1000000) : k_fRg1 true ((m, .int (n : Int)), S1) = .ok ((.sh, .tuple (natsD n)), S1) := by
  have : (decide (-1000000 ≤ (n : Int)) && decide ((n : Int) ≤ 1000000)) = true := by
    rw [Bool.and_eq_true, decide_eq_true_eq, decide_eq_true_eq]; omega
  show (if _ then _ else _ : M (MV × SS)) = _
  rw [if_pos this, Int.toNat_natCast, rangeD_nat]
  rfl
theorem k_fRg1_l {m : Md} {n : Nat} {S1 : SS} (h : n ≤ 1000000) : k_fRg1 false ((m, .int (n : Int)), S1) = .ok ((.ow .sh, .list (natsD n)), S1) := by
  have : (decide (-1000000 ≤ (n : Int)) && decide ((n : Int) ≤ 1000000)) = true := by
    rw [Bool.and_eq_true, decide_eq_true_eq, decide_eq_true_eq]; omega
  show (if _ then _ else _ : M (MV × SS)) = _
  rw [if_pos this, Int.toNat_natCast, rangeD_nat]
  rfl
/-! what sorted(set(..)) makes -/
theorem map_back {α κ : Type} (k : α → κ) (xs : List α) : ∀ (ks : List κ), (∀ q ∈ ks, q ∈ xs.map k) → ∃ l : List α, ks = l.map k ∧ ∀ y ∈ l, y ∈ xs
  | [], _ => ⟨[], rfl, by simp⟩
  | q :: ks, h => by
    obtain ⟨x, hx, rfl⟩ := List.mem_map.mp (h q List.mem_cons_self)
    obtain ⟨l, rfl, hl⟩ := map_back k xs ks fun p hp => h p (List.mem_cons_of_mem _ hp)
    exact ⟨x :: l, rfl, fun y hy => by
      rcases List.mem_cons.mp hy with rfl | hy
      · exact hx
      · exact hl y hy⟩
theorem insU_len {κ : Type} (O : Ord κ) {k : κ} : ∀ {l : List κ}, (insU O k l).length ≤ l.length + 1
  | [] => by simp [insU]
  | j :: js => by
    unfold insU
    split
    · simp
    · split
      · have := insU_len O (k := k) (l := js)
        simp; omega
      · simp
theorem sortU_len {κ : Type} (O : Ord κ) : ∀ {ks : List κ}, (sortU O ks).length ≤ ks.length
  | [] => by simp [sortU]
  | k :: ks => by
    have h1 := insU_len O (k := k) (l := sortU O ks)
    have h2 := sortU_len O (ks := ks)
    show (insU O k (sortU O ks)).length ≤ _
    simp; omega
structure SortOf {α : Type} (e : α → D) (xs l : List α) : Prop where
  asc : (l.map e).Pairwise fun a b => dLt a b = true
  sub : ∀ y ∈ l, y ∈ xs
  len : l.length ≤ xs.length
  all : ∀ x ∈ xs, e x ∈ l.map e
theorem srt_map {α κ : Type} (O : Ord κ) (k : α → κ) (xs : List α) : ∃ l : List α, (sortU O (xs.map k)).map O.enc = l.map (fun x => O.enc (k x)) ∧ SortOf (fun x => O.enc (k x)) xs l := by
  obtain ⟨l, hl, h2⟩ := map_back k xs (sortU O (xs.map k)) fun q hq => (sortU_mem O).mp hq
  have hm : (l.map fun x => O.enc (k x)) = (l.map k).map O.enc := by rw [List.map_map]; rfl
  refine ⟨l, by rw [hl, hm], ?_, h2, ?_, fun x hx => ?_⟩
  · rw [hm, ← hl, List.pairwise_map]
    exact sortU_asc O _
  · have h3 := sortU_len O (ks := xs.map k)
    rw [hl] at h3
    simpa using h3
  · rw [hm, ← hl]
    exact List.mem_map.mpr ⟨k x, (sortU_mem O).mpr (List.mem_map.mpr ⟨x, hx, rfl⟩), rfl⟩
theorem keysOf_strs (ys : List Str) : keysOf (ys.map .str) = some (ys.map .inr) := by
  induction ys with
  | nil => rfl
  | cons y ys ih =>
    rw [List.map_cons, keysOf, ih]
    rfl
theorem alike_strs (ys : List Str) : alikeB (ys.map .str) = true := by
  unfold alikeB
  rw [List.all_eq_true]
  intro a ha
  rw [List.all_eq_true]
  intro b hb
  obtain ⟨x, _, rfl⟩ := List.mem_map.mp ha
  obtain ⟨y, _, rfl⟩ := List.mem_map.mp hb
  simp [PySem.W.alike]
theorem sortSet_strs {ys : List Str} (h : ys.length < 64) : ∃ l, semSortSet (ys.map .str) = .ok (l.map .str) ∧ SortOf .str ys l := by
  obtain ⟨l, e, s⟩ := srt_map ordK (Sum.inr : Str → L2.Key) ys
  refine ⟨l, ?_, s⟩
  unfold semSortSet
  rw [if_pos (by rw [alike_strs, List.length_map, Bool.and_true]; exact decide_eq_true h), keysOf_strs]
  show Except.ok _ = _
  exact congrArg _ e
end O
set_option maxRecDepth 100000
set_option maxHeartbeats 4000000
namespace C53
open PySem O
theorem pick_str {x : Str} {i : Int} (hx : x.length ≤ 1000000) (h0 : 0 ≤ i) (h1 : i < x.cps.toList.length) : ∃ c ∈ x.cps.toList, ∀ m, semIx (.sh, .str x) (m, .int i) = .ok (.sh, .str ⟨#[c]⟩) := by
  obtain ⟨n, rfl⟩ := Int.eq_ofNat_of_zero_le h0
  have hn : n < x.cps.toList.length := by omega
  exact ⟨x.cps.toList[n], List.getElem_mem hn, fun m => ix_str hn hx⟩
def mixS : Str := "abcxyz0123456789"
theorem mix_sd : ∀ c ∈ mixS.cps.toList, sdC c = true := by decide
theorem sm_sd {c : Nat} (h : smC c = true) : sdC c = true := by unfold sdC; rw [h]; rfl
theorem sd_asc {c : Nat} (h : sdC c = true) : c < 128 := by
  have h1 : ∀ c ∈ smS.cps.toList ++ dgS.cps.toList, c < 128 := by decide
  unfold sdC smC at h
  rw [Bool.or_eq_true, decide_eq_true_eq, decide_eq_true_eq] at h
  exact h1 c (List.mem_append.mpr h)
structure Txt (x : Str) (n : Nat) : Prop where
  c : ∃ c cs, x.cps.toList = c :: cs ∧ smC c = true
  sd : x.cps.toList.all sdC = true
  len : x.length + n ≤ 7
theorem Txt.step {x : Str} {n : Nat} {c : Nat} (h : Txt x (n + 1)) (hc : sdC c = true) : Txt (x ++ ⟨#[c]⟩) n := by
  obtain ⟨⟨d, cs, e, hd⟩, sd, len⟩ := h
  have e2 : (x ++ ⟨#[c]⟩ : Str).cps.toList = x.cps.toList ++ [c] := by
    show (x.cps ++ #[c]).toList = _
    rw [Array.toList_append]
  refine ⟨⟨d, cs ++ [c], by rw [e2, e]; rfl, hd⟩, ?_, ?_⟩
  · rw [e2, List.all_append, sd]
    simp [hc]
  · rw [len_app]
    have : (⟨#[c]⟩ : Str).length = 1 := rfl
    omega
theorem Txt.asc {x : Str} {n : Nat} (h : Txt x n) : asc x := fun c hc => sd_asc (List.all_eq_true.mp h.sd c hc)
theorem Txt.one {c : Nat} {n : Nat} (h : smC c = true) (hn : n ≤ 6) : Txt ⟨#[c]⟩ n := ⟨⟨c, [], rfl, h⟩, by simp [sm_sd h], by show 1 + n ≤ 7; omega⟩
theorem Txt.name {x : Str} {n : Nat} (h : Txt x n) (hr : resB x = false) : nameS x = true := by
  obtain ⟨⟨c, cs, e, hc⟩, sd, len⟩ := h
  rw [nameS_cons e, hr, hc, ← e, sd, decide_eq_true (show x.length ≤ 8 by omega)]
  rfl
theorem namesL1 {many found k : Option MV} {j : Nat} : ∀ {b : Bx} {x : Str} {s5 : Option MV}, Txt x j → ∃ b' x' y5, forD (gNm 5) b__law_names_L1 (natsD j) [some (.bx, dB b), many, found, k, some (.sh, .str x), s5] = .ok (.nx, [some (.bx, dB b'), many, found, k, some (.sh, .str x'), y5]) ∧ Txt x' 0 := by
  intro b x s5 h
  have := for_inv (g := gNm 5) (body := b__law_names_L1) (Inv := fun rest S => ∃ b x s5, S = [some (.bx, dB b), many, found, k, some (.sh, .str x), s5] ∧ Txt x rest.length) (Post := fun fl S => fl = .nx ∧ ∃ b x s5, S = [some (.bx, dB b), many, found, k, some (.sh, .str x), s5] ∧ Txt x 0) (by
    rintro d rest S ⟨b, x, s5, rfl, h⟩
    rw [List.length_cons] at h
    obtain ⟨c, hc, e⟩ := pick_str (x := mixS) (i := b.dig 16) (by decide) (b.dig_nn (by decide)) (b.dig_lt (k := 16) (by decide))
    have e : ∀ m, semIx (.sh, .str "abcxyz0123456789") (m, .int (b.dig 16)) = .ok (.sh, .str ⟨#[c]⟩) := e
    have ha := add_str (m := .sh) (n := .sh) (x := x) (y := ⟨#[c]⟩) (by have := h.len; show x.length + 1 ≤ _; omega)
    refine ⟨[some (.bx, dB b), many, found, k, some (.sh, .str x), some (.sh, d)], .nx, [some (.bx, dB (b.nxt 16)), many, found, k, some (.sh, .str (x ++ ⟨#[c]⟩)), some (.sh, d)], rfl, ?_, ⟨_, _, _, rfl, h.step (mix_sd c hc)⟩⟩
    simp [b__law_names_L1, e, ha]) (by
    rintro S ⟨b, x, s5, rfl, h⟩
    exact ⟨rfl, b, x, s5, rfl, h⟩) (ds := natsD j) (S := [some (.bx, dB b), many, found, k, some (.sh, .str x), s5]) ⟨b, x, s5, rfl, by simpa using h⟩
  obtain ⟨fl, S', e, rfl, b', x', y5, rfl, h'⟩ := this
  exact ⟨b', x', y5, e, h'⟩
def nmOk (y : Str) : Prop := nameS y = true ∧ asc y ∧ y.length ≤ 7
theorem shaped_res2 : SeqAt.shaped (.tuple [.str "any", .str "all", .str "none"]) = true := (shaped_all (n := 10) (k := 0) (by
  intro d hd
  simp only [List.mem_cons, List.not_mem_nil, or_false] at hd
  rcases hd with rfl | rfl | rfl <;> rw [gd_str] <;> exact ⟨by decide, asc_lit (by decide)⟩) (by omega)).1
theorem res_perm (x : Str) : ([.str "any", .str "all", .str "none"] : List D).any (fun z => PyData.eqv z (.str x)) = resB x := by
  unfold resB
  simp only [List.any_cons, List.any_nil]
  cases PyData.eqv (.str "any") (.str x) <;> cases PyData.eqv (.str "all") (.str x) <;> rfl
theorem names_ok (b : Bx) {many : Nat} (hm : many ≤ 60) : ∃ (l : List Str) (b' : Bx), m__law_names [(.bx, dB b), (.sh, .int (many : Nat))] = .ok ((.sh, .tuple (l.map .str)), [(.bx, dB b')]) ∧ (l.map PyData.str).Pairwise (fun a b => dLt a b = true) ∧ l.length ≤ many ∧ ∀ y ∈ l, nmOk y := by
  have hr : onD rng1 [(.sh, .int (many : Int))] = .ok (natsD many) := rng_ok4 (by omega)
  have := for_inv (g := gNm 3) (body := b__law_names_L2) (Inv := fun rest S => ∃ (b : Bx) (l : List Str) (x3 x4 x5 : Option MV), S = [some (.bx, dB b), some (.sh, .int (many : Nat)), some (.ow .sh, .list (l.map PyData.str)), x3, x4, x5] ∧ l.length + rest.length ≤ many ∧ ∀ y ∈ l, nmOk y) (Post := fun fl S => fl = .nx ∧ ∃ (b : Bx) (l : List Str) (x3 x4 x5 : Option MV), S = [some (.bx, dB b), some (.sh, .int (many : Nat)), some (.ow .sh, .list (l.map PyData.str)), x3, x4, x5] ∧ l.length ≤ many ∧ ∀ y ∈ l, nmOk y) (by
    rintro d rest S ⟨b, l, x3, x4, x5, rfl, hl, hg⟩
    rw [List.length_cons] at hl
    obtain ⟨c, hc, e⟩ := pick_str (x := smS) (i := b.dig 26) (by decide) (b.dig_nn (by decide)) (b.dig_lt (k := 26) (by decide))
    have e : ∀ m, semIx (.sh, .str "abcdefghijklmnopqrstuvwxyz") (m, .int (b.dig 26)) = .ok (.sh, .str ⟨#[c]⟩) := e
    have d1 := (b.nxt 26).dig_nn (k := 3) (by decide)
    have d2 := (b.nxt 26).dig_lt (k := 3) (by decide)
    have d3 := ((b.nxt 26).nxt 3).dig_nn (k := 4) (by decide)
    have d4 := ((b.nxt 26).nxt 3).dig_lt (k := 4) (by decide)
    generalize hp : (b.nxt 26).dig 3 = p at *
    generalize hq : ((b.nxt 26).nxt 3).dig 4 = q at *
    obtain ⟨p, rfl⟩ := Int.eq_ofNat_of_zero_le d1
    obtain ⟨q, rfl⟩ := Int.eq_ofNat_of_zero_le d3
    have hpq : p * q ≤ 6 := by
      have : p ≤ 2 := by omega
      have : q ≤ 3 := by omega
      calc p * q ≤ 2 * 3 := Nat.mul_le_mul (by omega) (by omega)
        _ = 6 := rfl
    have hmu : MuOk (p : Int) (q : Int) := mulOk_of (a := 4) (b := 4) (by omega) (by omega) (by omega)
    have hr2 : onD rng1 [(.sh, .int ((p : Int) * (q : Int)))] = .ok (natsD (p * q)) := by
      rw [show (p : Int) * (q : Int) = ((p * q : Nat) : Int) by simp]
      exact rng_ok4 (by omega)
    have hcm : smC c = true := by unfold smC; exact decide_eq_true hc
    obtain ⟨b', x', y5, e1, ht⟩ := namesL1 (many := some (.sh, .int (many : Nat))) (found := some (.ow .sh, .list (l.map PyData.str))) (k := some (.sh, d)) (j := p * q) (b := ((b.nxt 26).nxt 3).nxt 4) (x := ⟨#[c]⟩) (s5 := x5) (Txt.one hcm hpq)
    have hn := notin_tup (m := .sh) (n := .sh) (shaped_str ht.asc) shaped_res2
    rw [res_perm] at hn
    have hlen : l.length < 1000000 := by omega
    cases hres : resB x' with
    | true =>
      rw [hres] at hn
      refine ⟨_, .nx, [some (.bx, dB b'), some (.sh, .int (many : Nat)), some (.ow .sh, .list (l.map PyData.str)), some (.sh, d), some (.sh, .str x'), y5], rfl, ?_, ⟨b', l, _, _, _, rfl, by omega, hg⟩⟩
      simp [b__law_names_L2, e, hp, hq, hmu, hr2, e1, hn]
    | false =>
      rw [hres] at hn
      have ha := append_ok (ds := l.map PyData.str) (d := .str x') (by simpa using hlen)
      refine ⟨_, .nx, [some (.bx, dB b'), some (.sh, .int (many : Nat)), some (.ow .sh, .list ((l ++ [x']).map PyData.str)), some (.sh, d), some (.sh, .str x'), y5], rfl, ?_, ⟨b', l ++ [x'], _, _, _, rfl, by simp; omega, fun y hy => ?_⟩⟩
      · simp [b__law_names_L2, e, hp, hq, hmu, hr2, e1, hn, ha]
      · rcases List.mem_append.mp hy with hy | hy
        · exact hg y hy
        · rw [List.mem_singleton.mp hy]
          exact ⟨ht.name hres, ht.asc, by have := ht.len; omega⟩) (by
    rintro S ⟨b, l, x3, x4, x5, rfl, hl, hg⟩
    exact ⟨rfl, b, l, x3, x4, x5, rfl, by simpa using hl, hg⟩) (ds := natsD many) (S := [some (.bx, dB b), some (.sh, .int (many : Nat)), some (.ow .sh, .list (([] : List Str).map PyData.str)), none, none, none]) ⟨b, [], none, none, none, rfl, by simp, by simp⟩
  obtain ⟨fl, S', e, rfl, b', l, x3, x4, x5, rfl, hl, hg⟩ := this
  obtain ⟨l', e2, so⟩ := sortSet_strs (ys := l) (by omega)
  refine ⟨l', b', ?_, so.asc, by have := so.len; omega, fun y hy => hg y (so.sub y hy)⟩
  unfold m__law_names b__law_names
  rw [List.map_nil] at e
  simp [hr, e, e2]
end C53
set_option maxRecDepth 100000
set_option maxHeartbeats 4000000
namespace C53
open PySem O
def kVan (v : Van) : List L2.Key := [.inr v.a, .inr v.b, .inl v.r, .inl v.c]
theorem alike_vans (vs us : List Van) : ∀ a ∈ vs.map dV, ∀ b ∈ us.map dV, PySem.W.alike a b = true := by
  intro a ha b hb
  obtain ⟨x, _, rfl⟩ := List.mem_map.mp ha
  obtain ⟨y, _, rfl⟩ := List.mem_map.mp hb
  simp [dV, PySem.W.alike, PySem.W.alikeAll]
theorem alikeB_vans (vs : List Van) : alikeB (vs.map dV) = true := by
  unfold alikeB
  rw [List.all_eq_true]
  intro a ha
  rw [List.all_eq_true]
  intro b hb
  exact alike_vans vs vs a ha b hb
theorem tupsOf_vans (vs : List Van) : tupsOf (vs.map dV) = some (vs.map kVan) := by
  induction vs with
  | nil => rfl
  | cons v vs ih =>
    rw [List.map_cons, dV, tupsOf, ih]
    rfl
theorem sortSet_vans {vs : List Van} (h : vs.length < 64) : ∃ l, semSortSet (vs.map dV) = .ok (l.map dV) ∧ SortOf dV vs l := by
  obtain ⟨l, e, s⟩ := srt_map ordT kVan vs
  refine ⟨l, ?_, s⟩
  unfold semSortSet
  rw [if_pos (by rw [alikeB_vans, List.length_map, Bool.and_true]; exact decide_eq_true h)]
  cases vs with
  | nil =>
    have : l = [] := by have := s.len; simpa using this
    subst this
    rfl
  | cons v vs =>
    have hk : keysOf ((v :: vs).map dV) = none := rfl
    rw [hk]
    show (match tupsOf ((v :: vs).map dV) with
      | some ks => if ks.all (fun k => !k.isEmpty) then Except.ok ((sortU ordT ks).map encT) else stk
      | none => stk) = _
    rw [tupsOf_vans]
    have ha : ((v :: vs).map kVan).all (fun k => !k.isEmpty) = true := by
      rw [List.all_map, List.all_eq_true]
      intro x _
      rfl
    dsimp only
    rw [if_pos ha]
    exact congrArg _ e
structure GNet (ys : List Str) (vs : List Van) : Prop where
  an : (ys.map PyData.str).Pairwise (fun a b => dLt a b = true)
  nm : ∀ y ∈ ys, nmOk y
  ly : ys.length ≤ 40
  av : (vs.map dV).Pairwise (fun a b => dLt a b = true)
  lv : vs.length ≤ 60
  ha : ∀ v ∈ vs, v.a ∈ ys
  hb : ∀ v ∈ vs, v.b ∈ ys
  ne : ∀ v ∈ vs, v.a ≠ v.b
  r : ∀ v ∈ vs, 1 ≤ v.r ∧ v.r ≤ 1000
  c : ∀ v ∈ vs, 0 ≤ v.c ∧ v.c ≤ 1000
theorem pair_nodup {α : Type} {e : α → D} {l : List α} (h : (l.map e).Pairwise fun a b => dLt a b = true) : l.Nodup := by
  rw [List.pairwise_map] at h
  refine List.Pairwise.imp (fun {a b} hab q => ?_) h
  subst q
  rw [dLt_irr] at hab
  cases hab
theorem GNet.net {ys : List Str} {vs : List Van} (g : GNet ys vs) : Net ys vs := ⟨pair_nodup g.an, by have := g.ly; omega, by have := g.lv; omega, g.ha, g.hb⟩
def vOk (ys : List Str) (v : Van) : Prop := v.a ∈ ys ∧ v.b ∈ ys ∧ v.a ≠ v.b ∧ (1 ≤ v.r ∧ v.r ≤ 1000) ∧ (0 ≤ v.c ∧ v.c ≤ 1000)
theorem pick4 {P : Int → Prop} {a b c d : Int} (h1 : P a) (h2 : P b) (h3 : P c) (h4 : P d) (x : Bx) : ∃ i, P i ∧ ∀ m, semIx (.ow .sh, .list [.int a, .int b, .int c, .int d]) (m, .int (x.dig 4)) = .ok (.sh, .int i) := by
  obtain ⟨e, he, hx⟩ := pick_ow (l := [.int a, .int b, .int c, .int d]) (x.dig_nn (k := 4) (by decide)) (x.dig_lt (k := 4) (by decide))
  simp only [List.mem_cons, List.not_mem_nil, or_false] at he
  rcases he with rfl | rfl | rfl | rfl
  · exact ⟨a, h1, hx⟩
  · exact ⟨b, h2, hx⟩
  · exact ⟨c, h3, hx⟩
  · exact ⟨d, h4, hx⟩
theorem netStep {ys : List Str} (nd : ys.Nodup) (hly : ys.length ≤ 60) {m1 m2 s5 s6 s7 s8 s9 : Option MV} {b : Bx} {vs : List Van} (hl : vs.length < 1000) : ∃ b' y6 y7 y8 y9, b__law_network_L1 [some (.bx, dB b), m1, m2, some (.sh, .tuple (ys.map .str)), some (.ow .sh, .list (vs.map dV)), s5, s6, s7, s8, s9] = .ok (.nx, [some (.bx, dB b'), m1, m2, some (.sh, .tuple (ys.map .str)), some (.ow .sh, .list (vs.map dV)), s5, y6, y7, y8, y9]) ∨
    ∃ v, vOk ys v ∧ b__law_network_L1 [some (.bx, dB b), m1, m2, some (.sh, .tuple (ys.map .str)), some (.ow .sh, .list (vs.map dV)), s5, s6, s7, s8, s9] = .ok (.nx, [some (.bx, dB b'), m1, m2, some (.sh, .tuple (ys.map .str)), some (.ow .sh, .list ((vs ++ [v]).map dV)), s5, y6, y7, y8, y9]) := by
  by_cases h1 : 1 < ys.length
  · have hL : (0 : Int) < ys.length := by omega
    have hL1 : (0 : Int) < (ys.length : Int) - 1 := by omega
    have hk : (ys.length : Int) < 2 ^ 200 := by omega
    have hk1 : (ys.length : Int) - 1 < 2 ^ 200 := by omega
    have d1 := b.dig_nn hL
    have d2 := b.dig_lt hL
    have d3 := (b.nxt ys.length).dig_nn hL1
    have d4 := (b.nxt ys.length).dig_lt hL1
    have w1 := draw_ok b hL hk
    have w2 := draw_ok (b.nxt ys.length) hL1 hk1
    generalize b.dig (ys.length : Int) = i at *
    generalize (b.nxt ys.length).dig ((ys.length : Int) - 1) = j at *
    generalize (b.nxt ys.length).nxt ((ys.length : Int) - 1) = b2 at *
    have hdv := divOk_of hL hk
    have hm0 := Int.emod_nonneg (i + 1 + j) (b := (ys.length : Int)) (by omega)
    have hm1 := Int.emod_lt_of_pos (i + 1 + j) hL
    have hmf : (i + 1 + j).fmod (ys.length : Int) = (i + 1 + j) % (ys.length : Int) := Int.fmod_eq_emod_of_nonneg _ (by omega)
    have hne : (i + 1 + j) % (ys.length : Int) ≠ i := fun e => by
      by_cases hlt : i + 1 + j < ys.length
      · rw [Int.emod_eq_of_lt (by omega) hlt] at e
        omega
      · have : (i + 1 + j) % (ys.length : Int) = i + 1 + j - ys.length := by
          rw [← Int.sub_emod_right, Int.emod_eq_of_lt (by omega) (by omega)]
        omega
    generalize hqq : (i + 1 + j) % (ys.length : Int) = q at *
    obtain ⟨i, rfl⟩ := Int.eq_ofNat_of_zero_le d1
    obtain ⟨q, rfl⟩ := Int.eq_ofNat_of_zero_le hm0
    have hi : i < ys.length := by omega
    have hq : q < ys.length := by omega
    have x1 : ∀ m, semIx (.sh, .tuple (ys.map .str)) (m, .int (i : Int)) = .ok (.sh, .str ys[i]) := fun m => by
      rw [ix_tup (by simpa using hi), List.getElem_map]
    have x2 : ∀ m, semIx (.sh, .tuple (ys.map .str)) (m, .int (q : Int)) = .ok (.sh, .str ys[q]) := fun m => by
      rw [ix_tup (by simpa using hq), List.getElem_map]
    have r1 := b2.dig_nn (k := 4) (by decide)
    have r2 := b2.dig_lt (k := 4) (by decide)
    have r3 := (b2.nxt 4).dig_nn (k := 1000) (by decide)
    have r4 := (b2.nxt 4).dig_lt (k := 1000) (by decide)
    obtain ⟨r, hr, er⟩ := pick4 (P := fun i => 1 ≤ i ∧ i ≤ 1000) (a := 1 + b2.dig 4) (b := 1 + (b2.nxt 4).dig 1000) (c := 1000) (d := 1) (by omega) (by omega) (by omega) (by omega) ((b2.nxt 4).nxt 1000)
    generalize hb3 : ((b2.nxt 4).nxt 1000).nxt 4 = b3 at *
    have c1 := b3.dig_nn (k := 5) (by decide)
    have c2 := b3.dig_lt (k := 5) (by decide)
    have c3 := (b3.nxt 5).dig_nn (k := 1001) (by decide)
    have c4 := (b3.nxt 5).dig_lt (k := 1001) (by decide)
    obtain ⟨c, hc, ec⟩ := pick4 (P := fun i => 0 ≤ i ∧ i ≤ 1000) (a := b3.dig 5) (b := (b3.nxt 5).dig 1001) (c := 1000) (d := 0) (by omega) (by omega) (by omega) (by omega) ((b3.nxt 5).nxt 1001)
    have ha := append_ok (ds := vs.map dV) (d := .tuple [.str ys[i], .str ys[q], .int r, .int c]) (by simp; omega)
    have hne' : ys[i] ≠ ys[q] := fun e => hne (by
      have := (List.getElem_inj nd).mp e
      omega)
    refine ⟨((b3.nxt 5).nxt 1001).nxt 4, some (.sh, .int (i : Int)), some (.sh, .int (q : Int)), some (.sh, .int r), some (.sh, .int c), .inr ⟨⟨ys[i], ys[q], r, c⟩, ⟨List.getElem_mem hi, List.getElem_mem hq, hne', hr, hc⟩, ?_⟩⟩
    have hpos : (1 : Int) < ys.length := by omega
    simp [b__law_network_L1, h1, hpos, hL, show 0 < ys.length by omega, hqq, w1, w2, hdv, hmf, x1, x2, er, hb3, ec, ha, dV]
  · refine ⟨b, s6, s7, s8, s9, .inl ?_⟩
    have hpos : ¬ (1 : Int) < ys.length := by omega
    simp [b__law_network_L1, h1, hpos]
end C53
set_option maxRecDepth 100000
set_option maxHeartbeats 4000000
namespace C53
open PySem O
theorem network_ok (b : Bx) {many count : Nat} (hm : many ≤ 40) (hc : count ≤ 60) : ∃ (ys : List Str) (vs : List Van) (b' : Bx), m__law_network [(.bx, dB b), (.sh, .int (many : Nat)), (.sh, .int (count : Nat))] = .ok ((.sh, dNet ys vs), [(.bx, dB b')]) ∧ GNet ys vs ∧ vs.length ≤ count := by
  obtain ⟨ys, b1, e1, h1, h2, h3⟩ := names_ok b (many := many) (by omega)
  have nd := pair_nodup h1
  have hr : onD rng1 [(.sh, .int (count : Int))] = .ok (natsD count) := rng_ok4 (by omega)
  have := for_inv (g := gNm 5) (body := b__law_network_L1) (Inv := fun rest S => ∃ (b : Bx) (vs : List Van) (x5 x6 x7 x8 x9 : Option MV), S = [some (.bx, dB b), some (.sh, .int (many : Nat)), some (.sh, .int (count : Nat)), some (.sh, .tuple (ys.map PyData.str)), some (.ow .sh, .list (vs.map dV)), x5, x6, x7, x8, x9] ∧ vs.length + rest.length ≤ count ∧ ∀ v ∈ vs, vOk ys v)
    (Post := fun fl S => fl = .nx ∧ ∃ (b : Bx) (vs : List Van) (x5 x6 x7 x8 x9 : Option MV), S = [some (.bx, dB b), some (.sh, .int (many : Nat)), some (.sh, .int (count : Nat)), some (.sh, .tuple (ys.map PyData.str)), some (.ow .sh, .list (vs.map dV)), x5, x6, x7, x8, x9] ∧ vs.length ≤ count ∧ ∀ v ∈ vs, vOk ys v) (by
    rintro d rest S ⟨b, vs, x5, x6, x7, x8, x9, rfl, hl, hg⟩
    rw [List.length_cons] at hl
    obtain ⟨b', y6, y7, y8, y9, h⟩ := netStep nd (by omega) (m1 := some (.sh, .int (many : Nat))) (m2 := some (.sh, .int (count : Nat))) (s5 := some (.sh, d)) (s6 := x6) (s7 := x7) (s8 := x8) (s9 := x9) (b := b) (vs := vs) (by omega)
    rcases h with h | ⟨v, hv, h⟩
    · exact ⟨_, .nx, _, rfl, h, b', vs, _, y6, y7, y8, y9, rfl, by omega, hg⟩
    · refine ⟨_, .nx, _, rfl, h, b', vs ++ [v], _, y6, y7, y8, y9, rfl, by simp; omega, fun x hx => ?_⟩
      rcases List.mem_append.mp hx with hx | hx
      · exact hg x hx
      · rw [List.mem_singleton.mp hx]; exact hv) (by
    rintro S ⟨b, vs, x5, x6, x7, x8, x9, rfl, hl, hg⟩
    exact ⟨rfl, b, vs, x5, x6, x7, x8, x9, rfl, by simpa using hl, hg⟩) (ds := natsD count) (S := [some (.bx, dB b1), some (.sh, .int (many : Nat)), some (.sh, .int (count : Nat)), some (.sh, .tuple (ys.map PyData.str)), some (.ow .sh, .list (([] : List Van).map dV)), none, none, none, none, none]) ⟨b1, [], none, none, none, none, none, rfl, by simp, by simp⟩
  obtain ⟨fl, S', e, rfl, b', vs, x5, x6, x7, x8, x9, rfl, hl, hg⟩ := this
  obtain ⟨l, e2, so⟩ := sortSet_vans (vs := vs) (by omega)
  have hgl : ∀ v ∈ l, vOk ys v := fun v hv => hg v (so.sub v hv)
  refine ⟨ys, l, b', ?_, ⟨h1, h3, by omega, so.asc, by have := so.len; omega, fun v hv => (hgl v hv).1, fun v hv => (hgl v hv).2.1, fun v hv => (hgl v hv).2.2.1, fun v hv => (hgl v hv).2.2.2.1, fun v hv => (hgl v hv).2.2.2.2⟩, by have := so.len; omega⟩
  unfold m__law_network b__law_network
  rw [List.map_nil] at e
  unfold dNet
  simp [e1, hr, e, e2]
theorem inN_mem {ys : List Str} {a : Str} : inN (ys.map .str) a = decide (a ∈ ys) := by
  unfold inN
  rw [List.any_map, Bool.eq_iff_iff, List.any_eq_true, decide_eq_true_eq]
  constructor
  · rintro ⟨x, hx, e⟩
    have : x = a := by simpa [eqv_str'] using e
    rw [← this]; exact hx
  · intro h
    exact ⟨a, h, by simp [eqv_str']⟩
theorem vanB_dV {ys : List Str} {v : Van} (h : vOk ys v) : vanB (ys.map .str) (dV v) = true := by
  obtain ⟨h1, h2, h3, h4, h5⟩ := h
  show (!decide (v.a = v.b) && (inN (ys.map .str) v.a && inN (ys.map .str) v.b) && ((decide (1 ≤ v.r) && decide (v.r ≤ 1000)) && (decide (0 ≤ v.c) && decide (v.c ≤ 1000)))) = true
  rw [inN_mem, inN_mem]
  simp [h1, h2, h3, h4, h5]
theorem names_all {ys : List Str} (h : ∀ y ∈ ys, nmOk y) : (ys.map PyData.str).all nameB = true := by
  rw [List.all_map, List.all_eq_true]
  exact fun y hy => (h y hy).1
theorem vans_all {ys : List Str} {vs : List Van} (h : ∀ v ∈ vs, vOk ys v) : (vs.map dV).all (vanB (ys.map .str)) = true := by
  rw [List.all_map, List.all_eq_true]
  exact fun y hy => vanB_dV (h y hy)
theorem GNet.vok {ys : List Str} {vs : List Van} (g : GNet ys vs) : ∀ v ∈ vs, vOk ys v := fun v hv => ⟨g.ha v hv, g.hb v hv, g.ne v hv, g.r v hv, g.c v hv⟩
theorem netB_true {ys : List Str} {vs : List Van} (h1 : ∀ y ∈ ys, nmOk y) (h2 : ys.length ≤ 40) (h3 : (ys.map PyData.str).Pairwise fun a b => dLt a b = true) (h4 : ∀ v ∈ vs, vOk ys v) (h5 : vs.length ≤ 200) (h6 : (vs.map dV).Pairwise fun a b => dLt a b = true) : netB (dNet ys vs) = true := by
  have : netB (dNet ys vs) = ((decide ((ys.map PyData.str).length ≤ 40) && (ys.map PyData.str).all nameB) && (decide ((vs.map dV).length ≤ 200) && (vs.map dV).all (vanB (ys.map .str))) && (ascD (ys.map PyData.str) && ascD (vs.map dV))) := rfl
  rw [this, names_all h1, vans_all h4, ascD_pair h3, ascD_pair h6]
  simp [h2, h5]
/-! bounded -/
theorem gd_names {ys : List Str} {n k : Nat} (h : ∀ y ∈ ys, nmOk y) (hl : ys.length ≤ n) (hn : 7 ≤ n) : gd n (k + 1) (.tuple (ys.map .str)) := by
  rw [gd_tup]
  refine ⟨by simpa using hl, fun d hd => ?_⟩
  obtain ⟨y, hy, rfl⟩ := List.mem_map.mp hd
  rw [gd_str]
  have := h y hy
  exact ⟨Nat.le_trans this.2.2 hn, this.2.1⟩
theorem small_bits {i : Int} {n : Nat} (h0 : 0 ≤ i) (h1 : i ≤ 1000) (hn : 10 ≤ n) : i.natAbs < 2 ^ n := by
  have : (2 : Nat) ^ 10 ≤ 2 ^ n := Nat.pow_le_pow_right (by decide) hn
  have : (2 : Nat) ^ 10 = 1024 := by decide
  omega
theorem gd_van {ys : List Str} {v : Van} {n k : Nat} (hy : ∀ y ∈ ys, nmOk y) (h : vOk ys v) (hn : 10 ≤ n) : gd n (k + 1) (dV v) := by
  obtain ⟨h1, h2, h3, h4, h5⟩ := h
  unfold dV
  rw [gd_tup]
  refine ⟨by simp; omega, fun d hd => ?_⟩
  simp only [List.mem_cons, List.not_mem_nil, or_false] at hd
  rcases hd with rfl | rfl | rfl | rfl
  · rw [gd_str]; exact ⟨by have := (hy _ h1).2.2; omega, (hy _ h1).2.1⟩
  · rw [gd_str]; exact ⟨by have := (hy _ h2).2.2; omega, (hy _ h2).2.1⟩
  · rw [gd_int]; exact small_bits (by omega) h4.2 hn
  · rw [gd_int]; exact small_bits (by omega) h5.2 hn
theorem gd_net {ys : List Str} {vs : List Van} (h1 : ∀ y ∈ ys, nmOk y) (h2 : ys.length ≤ 200) (h4 : ∀ v ∈ vs, vOk ys v) (h5 : vs.length ≤ 300) : gd 1000 3 (dNet ys vs) := by
  unfold dNet
  rw [gd_tup]
  refine ⟨by simp, fun d hd => ?_⟩
  simp only [List.mem_cons, List.not_mem_nil, or_false] at hd
  rcases hd with rfl | rfl
  · exact gd_names h1 (by omega) (by omega)
  · rw [gd_tup]
    refine ⟨by simp; omega, fun d hd => ?_⟩
    obtain ⟨v, hv, rfl⟩ := List.mem_map.mp hd
    exact gd_van h1 (h4 v hv) (by omega)
theorem same_bl (n : Nat) (a b : Bool) : m__law_same (n + 1) [(.sh, .bool a), (.sh, .bool b)] = .ok ((.sh, .bool (a == b)), []) := by
  rw [m__law_same]
  unfold b__law_same
  cases a <;> cases b <;> simp
theorem same_int (n : Nat) (i j : Int) : m__law_same (n + 1) [(.sh, .int i), (.sh, .int j)] = .ok ((.sh, .bool (decide (i = j))), []) := by
  rw [m__law_same]
  unfold b__law_same
  simp
end C53
set_option maxRecDepth 100000
set_option maxHeartbeats 4000000
namespace C53
open PySem O
theorem netB_bad {ns ws : List D} {w : D} (hw : w ∈ ws) (h : vanB ns w = false) : netB (.tuple [.tuple ns, .tuple ws]) = false := by
  have : ws.all (vanB ns) = false := by
    cases q : ws.all (vanB ns) with
    | false => rfl
    | true => have := List.all_eq_true.mp q w hw; rw [h] at this; cases this
  show ((decide (ns.length ≤ 40) && ns.all nameB) && (decide (ws.length ≤ 200) && ws.all (vanB ns)) && (ascD ns && ascD ws)) = false
  rw [this]
  simp
theorem gd_pair {ys : List Str} {ws : List D} (h1 : ∀ y ∈ ys, nmOk y) (h2 : ys.length ≤ 200) (h4 : ∀ d ∈ ws, gd 1000 1 d) (h5 : ws.length ≤ 300) : gd 1000 3 (.tuple [.tuple (ys.map .str), .tuple ws]) := by
  rw [gd_tup]
  refine ⟨by simp, fun d hd => ?_⟩
  simp only [List.mem_cons, List.not_mem_nil, or_false] at hd
  rcases hd with rfl | rfl
  · exact gd_names h1 (by omega) (by omega)
  · rw [gd_tup]
    exact ⟨by omega, h4⟩
theorem sorted_ok {us : List Van} (h : us.length ≤ 1000) {m : Md} (hm : m = .sh) : semSorted [(m, .tuple (us.map dV))] = .ok (.ow .sh, .list ((us.map dV).mergeSort (PySem.W.dataLe false fun d => d))) := by
  subst hm
  show (kids (.sh, .tuple (us.map dV)) >>= _) = _
  rw [kids_tup, ex_bind]
  have h1 : (us.map dV).all tupleD = true := by
    rw [List.all_map, List.all_eq_true]
    intro x _
    rfl
  have h2 : (us.map dV).all (fun d => decide (d.depth ≤ 40)) = true := by
    rw [List.all_map, List.all_eq_true]
    intro x _
    simp [dV, PyData.depth, PyData.depthAll]
  rw [if_pos (by rw [alikeB_vans, h1, h2, List.length_map]; simp; omega)]
  rfl
theorem nearL1 {ys : List Str} {vs us : List Van} (g : GNet ys vs) {w : Van} (hu : ∀ v ∈ us, vOk ys v) (hw : vOk ys w) (hl : us.length ≤ 60) {net at_ vd x10 : Option MV} {d : D} {p : Int} (hd : d = .int p) (h1 : 1 ≤ p) (h2 : p ≤ 1000) :
    b__law_near_fine_L1 [net, at_, some (.sh, .tuple (ys.map .str)), vd, some (.sh, .str w.a), some (.sh, .str w.b), some (.sh, .int w.r), some (.sh, .int w.c), some (.sh, .tuple (us.map dV)), some (.sh, d), x10] = .ok (.nx, [net, at_, some (.sh, .tuple (ys.map .str)), vd, some (.sh, .str w.a), some (.sh, .str w.b), some (.sh, .int w.r), some (.sh, .int w.c), some (.sh, .tuple (us.map dV)), some (.sh, d), x10]) := by
  subst hd
  obtain ⟨w1, w2, w3, w4, w5⟩ := hw
  have hall : ∀ v ∈ us ++ [⟨w.a, w.b, p, w.c⟩, ⟨w.a, w.b, w.r, p - 1⟩], vOk ys v := fun v hv => by
    rcases List.mem_append.mp hv with hv | hv
    · exact hu v hv
    · simp only [List.mem_cons, List.not_mem_nil, or_false] at hv
      rcases hv with rfl | rfl
      · exact ⟨w1, w2, w3, ⟨h1, h2⟩, w5⟩
      · exact ⟨w1, w2, w3, w4, by constructor <;> dsimp only <;> omega⟩
  obtain ⟨l, e, so⟩ := sortSet_vans (vs := us ++ [⟨w.a, w.b, p, w.c⟩, ⟨w.a, w.b, w.r, p - 1⟩]) (by simp; omega)
  have hll := so.len
  have hok : ∀ v ∈ l, vOk ys v := fun v hv => hall v (so.sub v hv)
  have hb := netB_true g.nm g.ly g.an hok (by simp at hll; omega) so.asc
  have hn := is_network_ok (n := 1000) (k := 3) (by omega) (by omega) (gd_net g.nm (by have := g.ly; omega) hok (by simp at hll; omega))
  rw [hb] at hn
  unfold dNet at hn
  have ha := add_tup (xs := us.map dV) (ys := [.tuple [.str w.a, .str w.b, .int p, .int w.c], .tuple [.str w.a, .str w.b, .int w.r, .int (p - 1)]]) (by simp; omega)
  have e' : semSortSet (us.map dV ++ [.tuple [.str w.a, .str w.b, .int p, .int w.c], .tuple [.str w.a, .str w.b, .int w.r, .int (p - 1)]]) = .ok (l.map dV) := by
    rw [List.map_append] at e
    exact e
  simp [b__law_near_fine_L1, ha, e', hn, same_bl]
structure Bad (ys : List Str) (d : D) : Prop where
  gd : gd 1000 1 d
  bad : vanB (ys.map .str) d = false
theorem nearL2 {ys : List Str} {vs us : List Van} (g : GNet ys vs) (hu : ∀ v ∈ us, vOk ys v) (hl : us.length ≤ 60) {net at_ vd x4 x5 x6 x7 x9 : Option MV} {d : D} {w : Van} (hd : d = dV w) (hb : Bad ys d) :
    b__law_near_fine_L2 [net, at_, some (.sh, .tuple (ys.map .str)), vd, x4, x5, x6, x7, some (.sh, .tuple (us.map dV)), x9, some (.sh, d)] = .ok (.nx, [net, at_, some (.sh, .tuple (ys.map .str)), vd, x4, x5, x6, x7, some (.sh, .tuple (us.map dV)), x9, some (.sh, d)]) := by
  have ha := add_tup (xs := us.map dV) (ys := [d]) (by simp; omega)
  have e := sorted_ok (us := us ++ [w]) (by simp; omega) (m := .sh) rfl
  rw [List.map_append, List.map_cons, List.map_nil, ← hd] at e
  have mem : ∀ x, x ∈ (us.map dV ++ [d]).mergeSort (PySem.W.dataLe false fun d => d) ↔ x ∈ us.map dV ++ [d] := fun x => List.mem_mergeSort
  have hlen : ((us.map dV ++ [d]).mergeSort (PySem.W.dataLe false fun d => d)).length ≤ 61 := by rw [List.length_mergeSort]; simp; omega
  generalize (us.map dV ++ [d]).mergeSort (PySem.W.dataLe false fun d => d) = ws at *
  have hn := is_network_ok (n := 1000) (k := 3) (by omega) (by omega) (gd_pair (ws := ws) g.nm (by have := g.ly; omega) (fun x hx => by
    rcases List.mem_append.mp ((mem x).mp hx) with h | h
    · obtain ⟨v, hv, rfl⟩ := List.mem_map.mp h
      exact gd_van g.nm (hu v hv) (by omega)
    · rw [List.mem_singleton.mp h]; exact hb.gd) (by omega))
  rw [netB_bad ((mem d).mpr (by simp)) hb.bad] at hn
  simp [b__law_near_fine_L2, ha, e, hn, same_bl]
theorem nearL3 {ys : List Str} {vs : List Van} (g : GNet ys vs) {j : Nat} (hj : j < vs.length) {net x4 x5 x6 x7 x8 x9 : Option MV} {d : D} (hb : Bad ys d) :
    b__law_near_fine_L3 [net, some (.sh, .int (j : Nat)), some (.sh, .tuple (ys.map .str)), some (.sh, .tuple (vs.map dV)), x4, x5, x6, x7, x8, x9, some (.sh, d)] = .ok (.nx, [net, some (.sh, .int (j : Nat)), some (.sh, .tuple (ys.map .str)), some (.sh, .tuple (vs.map dV)), x4, x5, x6, x7, x8, x9, some (.sh, d)]) := by
  have hlv := g.lv
  have q1 := cut_to (vs.map dV) j
  have q2 : cutD (vs.map dV) (some ((j : Int) + 1)) none = (vs.map dV).drop (j + 1) := cut_from (vs.map dV) (j + 1)
  have a1 := add_tup (xs := (vs.map dV).take j) (ys := [d]) (by simp; omega)
  have a2 := add_tup (xs := (vs.map dV).take j ++ [d]) (ys := (vs.map dV).drop (j + 1)) (by simp; omega)
  have hn := is_network_ok (n := 1000) (k := 3) (by omega) (by omega) (gd_pair (ws := (vs.map dV).take j ++ [d] ++ (vs.map dV).drop (j + 1)) g.nm (by have := g.ly; omega) (fun x hx => by
    have hv : ∀ x ∈ vs.map dV, gd 1000 1 x := fun x hx => by
      obtain ⟨v, hv, rfl⟩ := List.mem_map.mp hx
      exact gd_van g.nm (g.vok v hv) (by omega)
    rcases List.mem_append.mp hx with h | h
    · rcases List.mem_append.mp h with h | h
      · exact hv x (List.mem_of_mem_take h)
      · rw [List.mem_singleton.mp h]; exact hb.gd
    · exact hv x (List.mem_of_mem_drop h)) (by simp; omega))
  rw [netB_bad (w := d) (by simp) hb.bad] at hn
  generalize (vs.map dV).take j = t1 at *
  generalize (vs.map dV).drop (j + 1) = t2 at *
  simp at a2 hn
  simp [b__law_near_fine_L3, q1, q2, a1, a2, hn, same_bl]
theorem for_same {g : FG} {body : FS} {P : D → Prop} {J : SS → Prop} (h : ∀ d S, P d → J S → ∃ S1 S2, g (.sh, d) S = .ok S1 ∧ body S1 = .ok (.nx, S2) ∧ J S2) {ds : List D} {S : SS} (hp : ∀ d ∈ ds, P d) (hS : J S) : ∃ S', forD g body ds S = .ok (.nx, S') ∧ J S' := by
  have := for_inv (g := g) (body := body) (Inv := fun rest S => (∀ d ∈ rest, P d) ∧ J S) (Post := fun fl S => fl = .nx ∧ J S) (by
    rintro d rest S ⟨hp, hS⟩
    obtain ⟨S1, S2, e1, e2, h2⟩ := h d S (hp d List.mem_cons_self) hS
    exact ⟨S1, .nx, S2, e1, e2, fun x hx => hp x (List.mem_cons_of_mem _ hx), h2⟩) (fun S h => ⟨rfl, h.2⟩) (ds := ds) (S := S) ⟨hp, hS⟩
  obtain ⟨fl, S', e, rfl, h2⟩ := this
  exact ⟨S', e, h2⟩
end C53
set_option maxRecDepth 100000
set_option maxHeartbeats 4000000
namespace C53
open PySem O
theorem gd4 {ys : List Str} {a b : Str} {r c : D} (ha : asc a ∧ a.length ≤ 1000) (hb : asc b ∧ b.length ≤ 1000) (hr : gd 1000 0 r) (hc : gd 1000 0 c) : gd 1000 1 (.tuple [.str a, .str b, r, c]) := by
  rw [gd_tup]
  refine ⟨by simp, fun d hd => ?_⟩
  simp only [List.mem_cons, List.not_mem_nil, or_false] at hd
  rcases hd with rfl | rfl | rfl | rfl
  · rw [gd_str]; exact ⟨ha.2, ha.1⟩
  · rw [gd_str]; exact ⟨hb.2, hb.1⟩
  · exact hr
  · exact hc
def aaS : Str := "aaaaaaaa"
theorem near_ok {ys : List Str} {vs : List Van} (g : GNet ys vs) {j : Nat} (hj : j < vs.length) : m__law_near_fine [(.sh, dNet ys vs), (.sh, .int (j : Nat))] = .ok ((.sh, .bool true), []) := by
  have hlv := g.lv
  have hw := g.vok vs[j] (List.getElem_mem hj)
  have hx : ∀ m, semIx (.sh, .tuple (vs.map dV)) (m, .int (j : Int)) = .ok (.sh, dV vs[j]) := fun m => by
    rw [ix_tup (by simpa using hj), List.getElem_map]
  generalize vs[j] = w at *
  have q1 := cut_to (vs.map dV) j
  have q2 : cutD (vs.map dV) (some ((j : Int) + 1)) none = (vs.map dV).drop (j + 1) := cut_from (vs.map dV) (j + 1)
  have a1 := add_tup (xs := (vs.map dV).take j) (ys := (vs.map dV).drop (j + 1)) (by simp; omega)
  have hus : (vs.map dV).take j ++ (vs.map dV).drop (j + 1) = (vs.take j ++ vs.drop (j + 1)).map dV := by rw [List.map_append, List.map_take, List.map_drop]
  rw [hus] at a1
  have hu : ∀ v ∈ vs.take j ++ vs.drop (j + 1), vOk ys v := fun v hv => g.vok v (by
    rcases List.mem_append.mp hv with h | h
    · exact List.mem_of_mem_take h
    · exact List.mem_of_mem_drop h)
  have hul : (vs.take j ++ vs.drop (j + 1)).length ≤ 60 := by simp; omega
  generalize hz : vs.take j ++ vs.drop (j + 1) = us at *
  have wa := g.nm _ hw.1
  have wb := g.nm _ hw.2.1
  have ga : asc w.a ∧ w.a.length ≤ 1000 := ⟨wa.2.1, by have := wa.2.2; omega⟩
  have gb : asc w.b ∧ w.b.length ≤ 1000 := ⟨wb.2.1, by have := wb.2.2; omega⟩
  obtain ⟨w1, w2, w3, w4, w5⟩ := hw
  have gr : gd 1000 0 (.int w.r) := by rw [gd_int]; exact small_bits (by omega) w4.2 (by omega)
  have gc : gd 1000 0 (.int w.c) := by rw [gd_int]; exact small_bits (by omega) w5.2 (by omega)
  have gi : ∀ i : Int, i.natAbs ≤ 1001 → gd 1000 0 (.int i) := fun i h => by
    rw [gd_int]
    have : (2 : Nat) ^ 10 ≤ 2 ^ 1000 := Nat.pow_le_pow_right (by decide) (by decide)
    have : (2 : Nat) ^ 10 = 1024 := by decide
    omega
  let net : Option MV := some (.sh, dNet ys vs)
  let at_ : Option MV := some (.sh, .int (j : Nat))
  let nm : Option MV := some (.sh, .tuple (ys.map .str))
  let vd : Option MV := some (.sh, .tuple (vs.map dV))
  let ud : Option MV := some (.sh, .tuple (us.map dV))
  have l1 : ∃ S', forD (gNm 9) b__law_near_fine_L1 [.int 1, .int 2, .int 1000] [net, at_, nm, vd, some (.sh, .str w.a), some (.sh, .str w.b), some (.sh, .int w.r), some (.sh, .int w.c), ud, none, none] = .ok (.nx, S') ∧ ∃ x9, S' = [net, at_, nm, vd, some (.sh, .str w.a), some (.sh, .str w.b), some (.sh, .int w.r), some (.sh, .int w.c), ud, x9, none] :=
    for_same (P := fun d => ∃ p : Int, d = .int p ∧ 1 ≤ p ∧ p ≤ 1000) (J := fun S => ∃ x9, S = [net, at_, nm, vd, some (.sh, .str w.a), some (.sh, .str w.b), some (.sh, .int w.r), some (.sh, .int w.c), ud, x9, none]) (by
      rintro d S ⟨p, rfl, h1, h2⟩ ⟨x9, rfl⟩
      exact ⟨_, _, rfl, nearL1 g hu ⟨w1, w2, w3, w4, w5⟩ hul rfl h1 h2, _, rfl⟩) (by
      intro d hd
      simp only [List.mem_cons, List.not_mem_nil, or_false] at hd
      rcases hd with rfl | rfl | rfl
      · exact ⟨1, rfl, by decide, by decide⟩
      · exact ⟨2, rfl, by decide, by decide⟩
      · exact ⟨1000, rfl, by decide, by decide⟩) ⟨none, rfl⟩
  obtain ⟨S1, e1, x9, rfl⟩ := l1
  have noA : ∀ a b : Str, ∀ r c : D, ¬ isNum 1 1000 r = true ∨ ¬ isNum 0 1000 c = true ∨ a = b ∨ inN (ys.map .str) b = false → vanB (ys.map .str) (.tuple [.str a, .str b, r, c]) = false := fun a b r c h => by
    show (!decide (a = b) && (inN (ys.map .str) a && inN (ys.map .str) b) && (isNum 1 1000 r && isNum 0 1000 c)) = false
    rcases h with h | h | h | h
    · rw [Bool.not_eq_true] at h; rw [h]; simp
    · rw [Bool.not_eq_true] at h; rw [h]; simp
    · subst h; simp
    · rw [h]; simp
  have hA : inN (ys.map .str) aaS = false := by
    rw [inN_mem]
    refine decide_eq_false fun h => ?_
    have := (g.nm _ h).2.2
    have : aaS.length = 8 := by decide
    omega
  have gA : asc aaS ∧ aaS.length ≤ 1000 := ⟨asc_lit (by decide), by decide⟩
  have l2 : ∃ S', forD (gNm 10) b__law_near_fine_L2 [.tuple [.str w.a, .str w.b, .int 0, .int w.c], .tuple [.str w.a, .str w.b, .int 1001, .int w.c], .tuple [.str w.a, .str w.b, .int w.r, .int (-1)], .tuple [.str w.a, .str w.b, .int w.r, .int 1001], .tuple [.str w.a, .str w.a, .int w.r, .int w.c], .tuple [.str w.a, .str aaS, .int 1, .int 1]] [net, at_, nm, vd, some (.sh, .str w.a), some (.sh, .str w.b), some (.sh, .int w.r), some (.sh, .int w.c), ud, x9, none] = .ok (.nx, S') ∧ ∃ x10, S' = [net, at_, nm, vd, some (.sh, .str w.a), some (.sh, .str w.b), some (.sh, .int w.r), some (.sh, .int w.c), ud, x9, x10] :=
    for_same (P := fun d => (∃ v, d = dV v) ∧ Bad ys d) (J := fun S => ∃ x10, S = [net, at_, nm, vd, some (.sh, .str w.a), some (.sh, .str w.b), some (.sh, .int w.r), some (.sh, .int w.c), ud, x9, x10]) (by
      rintro d S ⟨⟨v, hv⟩, hb⟩ ⟨x10, rfl⟩
      exact ⟨_, _, rfl, nearL2 g hu hul hv hb, _, rfl⟩) (by
      intro d hd
      simp only [List.mem_cons, List.not_mem_nil, or_false] at hd
      rcases hd with rfl | rfl | rfl | rfl | rfl | rfl
      · exact ⟨⟨⟨w.a, w.b, 0, w.c⟩, rfl⟩, gd4 (ys := ys) ga gb (gi 0 (by decide)) gc, noA _ _ _ _ (.inl (by decide))⟩
      · exact ⟨⟨⟨w.a, w.b, 1001, w.c⟩, rfl⟩, gd4 (ys := ys) ga gb (gi 1001 (by decide)) gc, noA _ _ _ _ (.inl (by decide))⟩
      · exact ⟨⟨⟨w.a, w.b, w.r, -1⟩, rfl⟩, gd4 (ys := ys) ga gb gr (gi (-1) (by decide)), noA _ _ _ _ (.inr (.inl (by decide)))⟩
      · exact ⟨⟨⟨w.a, w.b, w.r, 1001⟩, rfl⟩, gd4 (ys := ys) ga gb gr (gi 1001 (by decide)), noA _ _ _ _ (.inr (.inl (by decide)))⟩
      · exact ⟨⟨⟨w.a, w.a, w.r, w.c⟩, rfl⟩, gd4 (ys := ys) ga ga gr gc, noA _ _ _ _ (.inr (.inr (.inl rfl)))⟩
      · exact ⟨⟨⟨w.a, aaS, 1, 1⟩, rfl⟩, gd4 (ys := ys) ga gA (gi 1 (by decide)) (gi 1 (by decide)), noA _ _ _ _ (.inr (.inr (.inr hA)))⟩) ⟨none, rfl⟩
  obtain ⟨S2, e2, x10, rfl⟩ := l2
  have gt : ∀ l : List D, l.length ≤ 1000 → (∀ d ∈ l, gd 1000 0 d) → gd 1000 1 (.tuple l) := fun l h1 h2 => by
    rw [gd_tup]
    exact ⟨h1, h2⟩
  have sa : gd 1000 0 (.str w.a) := by rw [gd_str]; exact ⟨ga.2, ga.1⟩
  have sb : gd 1000 0 (.str w.b) := by rw [gd_str]; exact ⟨gb.2, gb.1⟩
  have l3 : ∃ S', forD (gNm 10) b__law_near_fine_L3 [.tuple [.str w.a, .str w.b, .bool true, .int w.c], .tuple [.str w.a, .str w.b, .int w.r, .bool false], .tuple [.str w.a, .str w.b, .int w.r], .tuple [.str w.a, .str w.b, .int w.r, .int w.c, .int 0], .tuple [.str w.a, .int 0, .int w.r, .int w.c], .none, .str "van"] [net, at_, nm, vd, some (.sh, .str w.a), some (.sh, .str w.b), some (.sh, .int w.r), some (.sh, .int w.c), ud, x9, x10] = .ok (.nx, S') ∧ ∃ x10, S' = [net, at_, nm, vd, some (.sh, .str w.a), some (.sh, .str w.b), some (.sh, .int w.r), some (.sh, .int w.c), ud, x9, x10] :=
    for_same (P := fun d => Bad ys d) (J := fun S => ∃ x10, S = [net, at_, nm, vd, some (.sh, .str w.a), some (.sh, .str w.b), some (.sh, .int w.r), some (.sh, .int w.c), ud, x9, x10]) (by
      rintro d S hb ⟨x10, rfl⟩
      exact ⟨_, _, rfl, nearL3 g hj hb, _, rfl⟩) (by
      intro d hd
      simp only [List.mem_cons, List.not_mem_nil, or_false] at hd
      rcases hd with rfl | rfl | rfl | rfl | rfl | rfl | rfl
      · exact ⟨gd4 (ys := ys) ga gb (by simp) gc, noA _ _ _ _ (.inl (by simp [isNum]))⟩
      · exact ⟨gd4 (ys := ys) ga gb gr (by simp), noA _ _ _ _ (.inr (.inl (by simp [isNum])))⟩
      · exact ⟨gt _ (by simp) (by simp only [List.mem_cons, List.not_mem_nil, or_false]; rintro d (rfl | rfl | rfl) <;> assumption), rfl⟩
      · exact ⟨gt _ (by simp) (by simp only [List.mem_cons, List.not_mem_nil, or_false]; rintro d (rfl | rfl | rfl | rfl | rfl) <;> first | assumption | exact gi 0 (by decide)), rfl⟩
      · exact ⟨gt _ (by simp) (by simp only [List.mem_cons, List.not_mem_nil, or_false]; rintro d (rfl | rfl | rfl | rfl) <;> first | assumption | exact gi 0 (by decide)), rfl⟩
      · exact ⟨by simp, rfl⟩
      · exact ⟨by rw [gd_str]; exact ⟨by decide, asc_lit (by decide)⟩, rfl⟩) ⟨x10, rfl⟩
  obtain ⟨S3, e3, x10', rfl⟩ := l3
  unfold m__law_near_fine b__law_near_fine
  simp only [net, at_, nm, vd, ud, dNet] at e1 e2 e3
  change forD _ _ [.tuple [.str w.a, .str w.b, .int 0, .int w.c], .tuple [.str w.a, .str w.b, .int 1001, .int w.c], .tuple [.str w.a, .str w.b, .int w.r, .int (-1)], .tuple [.str w.a, .str w.b, .int w.r, .int 1001], .tuple [.str w.a, .str w.a, .int w.r, .int w.c], .tuple [.str w.a, .str "aaaaaaaa", .int 1, .int 1]] _ = _ at e2
  unfold dNet
  have hx' : ∀ m, semIx (.sh, .tuple (vs.map dV)) (m, .int (j : Int)) = .ok (.sh, .tuple [.str w.a, .str w.b, .int w.r, .int w.c]) := hx
  generalize (vs.map dV).take j = t1 at *
  generalize (vs.map dV).drop (j + 1) = t2 at *
  simp [hx', q1, q2, a1, e1, e2, e3]
end C53
set_option maxRecDepth 100000
set_option maxHeartbeats 4000000
namespace C53
open PySem O
def gN (k : Nat) : Str := ("a" : Str) ++ Str.ofString ((k : Int) + 10).repr
def gYs : List Str := (List.range 41).map gN
def gV (k : Nat) : Van := ⟨gN (k / 10), gN (30 + k % 10), 1000, 1000⟩
def gVs : List Van := (List.range 200).map gV
def gSh : List Str := (List.range 40).map gN
def gX : Van := ⟨gN 38, gN 39, 1, 0⟩
def gLoad : List Int := (List.range 30).map (fun k => if k < 20 then 10000 else 0) ++ List.replicate 10 (-20000)
def gFull : List Int := List.replicate 200 1000
/-! the same with the names written out -/
def lN (k : Nat) : Str := ⟨#[97, 48 + (k + 10) / 10, 48 + k % 10]⟩
theorem gN_eq : ∀ k < 41, gN k = lN k := by decide +kernel
def lYs : List Str := (List.range 41).map lN
def lV (k : Nat) : Van := ⟨lN (k / 10), lN (30 + k % 10), 1000, 1000⟩
def lVs : List Van := (List.range 200).map lV
def lSh : List Str := (List.range 40).map lN
theorem gSh_eq : gSh = lSh := List.map_congr_left fun k hk => gN_eq k (by have := List.mem_range.mp hk; omega)
theorem gYs_eq : gYs = lYs := List.map_congr_left fun k hk => gN_eq k (by have := List.mem_range.mp hk; omega)
theorem gVs_eq : gVs = lVs := List.map_congr_left fun k hk => by
  have := List.mem_range.mp hk
  unfold gV lV
  rw [gN_eq _ (by omega), gN_eq _ (by omega)]
theorem nm_ok : ∀ y ∈ lYs, nameS y = true ∧ y.cps.toList.all (fun c => decide (c < 128)) = true ∧ y.length ≤ 7 := by decide +kernel
theorem f1 : netB (dNet lSh lVs) = true := by decide +kernel
theorem f2 : netB (dNet lYs lVs) = false := by decide +kernel
def lX : Van := ⟨lN 38, lN 39, 1, 0⟩
theorem gX_eq : gX = lX := by
  unfold gX lX
  rw [gN_eq _ (by omega), gN_eq _ (by omega)]
theorem f3 {ns ws : List D} (h : ws.length = 201) : netB (.tuple [.tuple ns, .tuple ws]) = false := by
  show ((decide (ns.length ≤ 40) && ns.all nameB) && (decide (ws.length ≤ 200) && ws.all (vanB ns)) && (ascD ns && ascD ws)) = false
  rw [h]
  simp
theorem f4 : netB (dNet lSh (lVs.drop 1 ++ [lX])) = true := by decide +kernel
theorem f5 : loadB 40 (.tuple (gLoad.map .int)) = true := by decide +kernel
theorem f6 : planB lSh lVs gLoad (.tuple (gFull.map .int)) = true := by decide +kernel
theorem f7 : loadB 2 (.tuple [.int 200000, .int (-200000)]) = true := by decide +kernel
theorem f8 : loadB 2 (.tuple [.int 200001, .int (-200001)]) = false := by decide +kernel
theorem f9 : costL lVs gFull = 200000000 := by decide +kernel
theorem f10 : roomL lSh lVs ((List.range 20).map fun i => ((i : Nat) : Int)) = 200000 := by decide +kernel
theorem f11 : lSh.Nodup := by decide +kernel
theorem f12 : ∀ v ∈ lVs, v.a ∈ lSh ∧ v.b ∈ lSh := by decide +kernel
theorem f13 : ∀ v ∈ lVs ++ [lX], (decide (v.a ∈ lYs) && decide (v.b ∈ lYs) && !decide (v.a = v.b) && (decide (1 ≤ v.r) && decide (v.r ≤ 1000)) && (decide (0 ≤ v.c) && decide (v.c ≤ 1000))) = true := by decide +kernel
end C53
set_option maxRecDepth 100000
set_option maxHeartbeats 4000000
namespace C53
open PySem O
theorem isnot_bl {m n : Md} {a b : Bool} : semIsNot (m, .bool a) (n, .bool b) = .ok (.sh, .bool (a != b)) := by
  cases a <;> cases b <;> rfl
theorem lN_ok {y : Str} (h : y ∈ lYs) : nmOk y := by
  have := nm_ok y h
  exact ⟨this.1, asc_lit this.2.1, this.2.2⟩
theorem sh_sub : ∀ y ∈ lSh, y ∈ lYs := fun y hy => by
  obtain ⟨k, hk, rfl⟩ := List.mem_map.mp hy
  exact List.mem_map.mpr ⟨k, List.mem_range.mpr (by have := List.mem_range.mp hk; omega), rfl⟩
theorem lV_ok : ∀ v ∈ lVs ++ [lX], vOk lYs v := fun v hv => by
  have := f13 v hv
  simp only [Bool.and_eq_true, decide_eq_true_eq, Bool.not_eq_true', decide_eq_false_iff_not] at this
  obtain ⟨⟨⟨⟨h1, h2⟩, h3⟩, h4, h5⟩, h6, h7⟩ := this
  exact ⟨h1, h2, h3, ⟨h4, h5⟩, h6, h7⟩
theorem shNet : Net lSh lVs := ⟨f11, by decide, by decide, fun v hv => (f12 v hv).1, fun v hv => (f12 v hv).2⟩
theorem gdV {ws : List Van} {ys : List Str} (hy : ∀ y ∈ ys, y ∈ lYs) (hl : ys.length ≤ 200) (hw : ∀ v ∈ ws, v ∈ lVs ++ [lX]) (h2 : ws.length ≤ 300) : gd 1000 3 (dNet ys ws) := gd_pair (ys := ys) (ws := ws.map dV) (fun y h => lN_ok (hy y h)) hl (fun d hd => by
  obtain ⟨v, hv, rfl⟩ := List.mem_map.mp hd
  exact gd_van (ys := lYs) (fun y h => lN_ok h) (lV_ok v (hw v hv)) (by omega)) (by simpa using h2)
theorem n1 : m_is_network [(.sh, .tuple [.tuple (lSh.map .str), .tuple (lVs.map dV)])] = .ok ((.sh, .bool true), []) := by
  have := is_network_ok (n := 1000) (k := 3) (by omega) (by omega) (gdV (ys := lSh) (ws := lVs) sh_sub (by decide) (fun v hv => List.mem_append_left _ hv) (by decide))
  rw [f1] at this
  exact this
theorem n2 : m_is_network [(.sh, .tuple [.tuple (lYs.map .str), .tuple (lVs.map dV)])] = .ok ((.sh, .bool false), []) := by
  have := is_network_ok (n := 1000) (k := 3) (by omega) (by omega) (gdV (ys := lYs) (ws := lVs) (fun y h => h) (by decide) (fun v hv => List.mem_append_left _ hv) (by decide))
  rw [f2] at this
  exact this
theorem n3 {ws : List D} (hl : ws.length = 201) (hm : ∀ d ∈ ws, d ∈ (lVs ++ [lX]).map dV) : m_is_network [(.sh, .tuple [.tuple (lSh.map .str), .tuple ws])] = .ok ((.sh, .bool false), []) := by
  have := is_network_ok (n := 1000) (k := 3) (by omega) (by omega) (gd_pair (ys := lSh) (ws := ws) (fun y h => lN_ok (sh_sub y h)) (by decide) (fun d hd => by
    obtain ⟨v, hv, rfl⟩ := List.mem_map.mp (hm d hd)
    exact gd_van (ys := lYs) (fun y h => lN_ok h) (lV_ok v hv) (by omega)) (by omega))
  rw [f3 hl] at this
  exact this
theorem n4 : m_is_network [(.sh, .tuple [.tuple (lSh.map .str), .tuple ((lVs.drop 1 ++ [lX]).map dV)])] = .ok ((.sh, .bool true), []) := by
  have := is_network_ok (n := 1000) (k := 3) (by omega) (by omega) (gdV (ys := lSh) (ws := lVs.drop 1 ++ [lX]) sh_sub (by decide) (fun v hv => by
    rcases List.mem_append.mp hv with h | h
    · exact List.mem_append_left _ (List.mem_of_mem_drop h)
    · exact List.mem_append_right _ h) (by decide))
  rw [f4] at this
  exact this
theorem gdI {l : List Int} (hl : l.length ≤ 1000) (h : ∀ i ∈ l, i.natAbs < 2 ^ 20) : gd 1000 1 (.tuple (l.map .int)) := by
  rw [gd_tup]
  refine ⟨by simpa using hl, fun d hd => ?_⟩
  obtain ⟨i, hi, rfl⟩ := List.mem_map.mp hd
  rw [gd_int]
  exact Nat.lt_of_lt_of_le (h i hi) (Nat.pow_le_pow_right (by decide) (by decide))
theorem n5 : m_is_load [(.sh, .tuple [.tuple (lSh.map .str), .tuple (lVs.map dV)]), (.sh, .tuple (gLoad.map .int))] = .ok ((.sh, .bool true), []) := by
  have := is_load_ok (ys := lSh) (vs := lVs) (n := 1000) (k := 1) (by omega) (gdI (l := gLoad) (by decide) (by decide))
  rw [show lSh.length = 40 from by decide, f5] at this
  exact this
theorem n6 : m_is_plan [(.sh, .tuple [.tuple (lSh.map .str), .tuple (lVs.map dV)]), (.sh, .tuple (gLoad.map .int)), (.sh, .tuple (gFull.map .int))] = .ok ((.sh, .bool true), []) := by
  have := is_plan_ok shNet (n := 1000) (k := 1) (by omega) (gdI (l := gFull) (by decide) (by decide)) gLoad
  rw [f6] at this
  exact this
theorem n7 : m_is_load [(.sh, .tuple [.tuple [.str "a", .str "b"], .tuple []]), (.sh, .tuple [.int 200000, .int (-200000)])] = .ok ((.sh, .bool true), []) := by
  have := is_load_ok (ys := ["a", "b"]) (vs := []) (n := 1000) (k := 1) (by omega) (gdI (l := [200000, -200000]) (by decide) (by decide))
  rw [show (["a", "b"] : List Str).length = 2 from rfl, show ([200000, -200000] : List Int).map PyData.int = [.int 200000, .int (-200000)] from rfl, f7] at this
  exact this
theorem n8 : m_is_load [(.sh, .tuple [.tuple [.str "a", .str "b"], .tuple []]), (.sh, .tuple [.int 200001, .int (-200001)])] = .ok ((.sh, .bool false), []) := by
  have := is_load_ok (ys := ["a", "b"]) (vs := []) (n := 1000) (k := 1) (by omega) (gdI (l := [200001, -200001]) (by decide) (by decide))
  rw [show (["a", "b"] : List Str).length = 2 from rfl, show ([200001, -200001] : List Int).map PyData.int = [.int 200001, .int (-200001)] from rfl, f8] at this
  exact this
theorem n9 : m_cost_of [(.sh, .tuple [.tuple (lSh.map .str), .tuple (lVs.map dV)]), (.sh, .tuple (gFull.map .int))] = .ok ((.sh, .int 200000000), []) := by
  have := cost_of_ok (ys := lSh) (vs := lVs) (P := gFull) (fun v hv => by
    have h := lV_ok v (List.mem_append_left _ hv)
    exact small_bits h.2.2.2.2.1 h.2.2.2.2.2 (by omega)) (fun p hp => by
    rw [List.eq_of_mem_replicate hp]
    exact small_bits (by decide) (by decide) (by omega))
  rw [f9] at this
  exact this
theorem n10 : m_room_out [(.sh, .tuple [.tuple (lSh.map .str), .tuple (lVs.map dV)]), (.sh, .tuple (natsD 20))] = .ok ((.sh, .int 200000), []) := by
  have := room_out_ok shNet ((List.range 20).map fun i => ((i : Nat) : Int))
  rw [f10] at this
  rw [List.map_map] at this
  exact this
end C53
set_option maxRecDepth 100000
set_option maxHeartbeats 4000000
namespace C53
open PySem O
theorem getY : ∀ k (hk : k < lYs.length), lYs[k] = lN k := fun k hk => by
  have h : lYs[k]? = some (lN k) := by
    have hl : lYs.length = 41 := by decide
    unfold lYs
    rw [List.getElem?_map, List.getElem?_range (by omega)]
    rfl
  exact (List.getElem?_eq_some_iff.mp h).2
theorem g1_ok : lcD [1] (gNm 1) ftYes b__law_great_fine_E1 (natsD 41) [] [none, none, none, none, none, none, none] = .ok (lYs.map .str, [none, none, none, none, none, none, none]) := by
  have h := lc_map2 (vs := [1]) (g := gNm 1) (te := b__law_great_fine_E1) (S0 := [none, none, none, none, none, none, none]) (ds := natsD 41) (fun d => match d with
    | .int i => .str (("a" : Str) ++ Str.ofString (i + 10).repr)
    | d => d) (fun d hd => by
      obtain ⟨i, hi, rfl⟩ := mem_natsD hd
      have hs := str_ok (m := .sh) (i := (i : Int) + 10) (b_mono (a := 10) (by omega) (by omega))
      have hl := repr_len (n := 10) (by omega) (i := (i : Int) + 10) (by omega)
      have ha := add_str (m := .sh) (n := .sh) (x := "a") (y := Str.ofString ((i : Int) + 10).repr) (by have : Str.length "a" = 1 := by decide
                                                                                                        omega)
      simp [itD, b__law_great_fine_E1, hs, ha]) (by simp)
  rw [h]
  have e : (natsD 41).map (fun d => match d with
    | .int i => PyData.str (("a" : Str) ++ Str.ofString (i + 10).repr)
    | d => d) = gYs.map .str := by
    unfold natsD gYs
    rw [List.map_map, List.map_map]
    rfl
  rw [e, gYs_eq]
theorem g2_ok : lcD [1] (gNm 1) ftYes b__law_great_fine_E2 (natsD 200) [] [some (.sh, .tuple (lYs.map .str)), none, none, none, none, none, none] = .ok (lVs.map dV, [some (.sh, .tuple (lYs.map .str)), none, none, none, none, none, none]) := by
  have h := lc_map2 (vs := [1]) (g := gNm 1) (te := b__law_great_fine_E2) (S0 := [some (.sh, .tuple (lYs.map .str)), none, none, none, none, none, none]) (ds := natsD 200) (fun d => match d with
    | .int i => dV (lV i.toNat)
    | d => d) (fun d hd => by
      obtain ⟨i, hi, rfl⟩ := mem_natsD hd
      have hf : (i : Int).fdiv 10 = ((i / 10 : Nat) : Int) := by
        rw [Int.fdiv_eq_ediv_of_nonneg _ (by omega)]
        omega
      have hd10 : DvOk 10 := divOk_of (by decide) (by decide)
      have hmu : MuOk ((i : Int) / 10) 10 := mulOk_of (a := 10) (b := 10) (by omega) (by decide) (by omega)
      have hl : lYs.length = 41 := by decide
      have ha : i / 10 < lYs.length := by omega
      have hb : 30 + i % 10 < lYs.length := by omega
      have x1 : ∀ m, semIx (.sh, .tuple (lYs.map .str)) (m, .int ((i : Int) / 10)) = .ok (.sh, .str (lN (i / 10))) := fun m => by
        rw [show (i : Int) / 10 = ((i / 10 : Nat) : Int) by omega, ix_tup (by simpa using ha), List.getElem_map, getY]
      have x2 : ∀ m, semIx (.sh, .tuple (lYs.map .str)) (m, .int (30 + (i : Int) - (i : Int) / 10 * 10)) = .ok (.sh, .str (lN (30 + i % 10))) := fun m => by
        rw [show (30 + (i : Int) - (i : Int) / 10 * 10) = ((30 + i % 10 : Nat) : Int) by omega, ix_tup (by simpa using hb), List.getElem_map, getY]
      have hf' : (i : Int).fdiv 10 = (i : Int) / 10 := Int.fdiv_eq_ediv_of_nonneg _ (by omega)
      simp [itD, b__law_great_fine_E2, hd10, hf', hmu, x1, x2, dV, lV]) (by simp)
  rw [h]
  have e : (natsD 200).map (fun d => match d with
    | .int i => dV (lV i.toNat)
    | d => d) = lVs.map dV := by
    unfold natsD lVs
    rw [List.map_map, List.map_map]
    rfl
  rw [e]
theorem g3_ok {x0 x2 x3 x4 : Option MV} : lcD [1] (gNm 1) ftYes b__law_great_fine_E3 (natsD 30) [] [x0, none, x2, x3, x4, none, none] = .ok (((List.range 30).map (fun k => if k < 20 then (10000 : Int) else 0)).map .int, [x0, none, x2, x3, x4, none, none]) := by
  have h := lc_map2 (vs := [1]) (g := gNm 1) (te := b__law_great_fine_E3) (S0 := [x0, none, x2, x3, x4, none, none]) (ds := natsD 30) (fun d => match d with
    | .int i => .int (if i < 20 then 10000 else 0)
    | d => d) (fun d hd => by
      obtain ⟨i, hi, rfl⟩ := mem_natsD hd
      by_cases h : (i : Int) < 20
      · have h' : i < 20 := by omega
        simp [itD, b__law_great_fine_E3, h, h']
      · have h' : ¬ i < 20 := by omega
        simp [itD, b__law_great_fine_E3, h, h']) (by simp)
  rw [h]
  have e : (natsD 30).map (fun d => match d with
    | .int i => PyData.int (if i < 20 then 10000 else 0)
    | d => d) = ((List.range 30).map (fun k => if k < 20 then (10000 : Int) else 0)).map .int := by
    unfold natsD
    rw [List.map_map, List.map_map]
    refine List.map_congr_left fun i _ => ?_
    show PyData.int (if (i : Int) < 20 then 10000 else 0) = PyData.int (if i < 20 then 10000 else 0)
    by_cases h : i < 20
    · rw [if_pos h, if_pos (by omega)]
    · rw [if_neg h, if_neg (by omega)]
  rw [e]
theorem cutN : cutD (lYs.map PyData.str) none (some 40) = lSh.map .str := by
  have := cut_to (lYs.map PyData.str) 40
  rw [show cutD (lYs.map PyData.str) none (some 40) = (lYs.map PyData.str).take 40 from this, ← List.map_take]
  congr 1
theorem cutM : cutD (lVs.map dV ++ [dV lX]) (some 1) none = (lVs.drop 1 ++ [lX]).map dV := by
  have := cut_from (lVs.map dV ++ [dV lX]) 1
  rw [show cutD (lVs.map dV ++ [dV lX]) (some 1) none = (lVs.map dV ++ [dV lX]).drop 1 from this, List.map_append, List.map_drop, List.drop_append_of_le_length (by rw [List.length_map]; decide)]
  rfl
theorem great_ok : m__law_great_fine [] = .ok ((.sh, .bool true), []) := by
  have r1 : onD rng1 [(.sh, .int 41)] = .ok (natsD 41) := rng_ok4 (m := .sh) (n := 41) (by omega)
  have r2 : onD rng1 [(.sh, .int 200)] = .ok (natsD 200) := rng_ok4 (m := .sh) (n := 200) (by omega)
  have r3 : onD rng1 [(.sh, .int 30)] = .ok (natsD 30) := rng_ok4 (m := .sh) (n := 30) (by omega)
  have hlY : lYs.length = 41 := by decide
  have hlV : lVs.length = 200 := by decide
  have x1 : ∀ m, semIx (.sh, .tuple (lYs.map .str)) (m, .int 38) = .ok (.sh, .str (lN 38)) := fun m => by
    have := ix_tup (m := m) (l := lYs.map PyData.str) (i := 38) (by rw [List.length_map]; omega)
    rw [List.getElem_map, getY] at this
    exact this
  have x2 : ∀ m, semIx (.sh, .tuple (lYs.map .str)) (m, .int 39) = .ok (.sh, .str (lN 39)) := fun m => by
    have := ix_tup (m := m) (l := lYs.map PyData.str) (i := 39) (by rw [List.length_map]; omega)
    rw [List.getElem_map, getY] at this
    exact this
  have a1 := add_tup (xs := lVs.map dV) (ys := [dV lX]) (by simp; omega)
  have so := sorted_ok (us := lVs ++ [lX]) (by simp; omega) (m := .sh) rfl
  rw [List.map_append, List.map_cons, List.map_nil] at so
  have mem : ∀ x, x ∈ (lVs.map dV ++ [dV lX]).mergeSort (PySem.W.dataLe false fun d => d) ↔ x ∈ lVs.map dV ++ [dV lX] := fun x => List.mem_mergeSort
  have hlen : ((lVs.map dV ++ [dV lX]).mergeSort (PySem.W.dataLe false fun d => d)).length = 201 := by rw [List.length_mergeSort]; simp; omega
  generalize (lVs.map dV ++ [dV lX]).mergeSort (PySem.W.dataLe false fun d => d) = ws at *
  have h3 := n3 hlen (fun d hd => by
    rw [List.map_append]
    exact (mem d).mp hd)
  have m1 : semMul (.ow .sh, .list [.int (-20000)]) (.sh, .int 10) = .ok (.ow .sh, .list (List.replicate 10 (.int (-20000)))) := rep_one (m := .sh) (n := 10) (by omega)
  have m2 : semMul (.ow .sh, .list [.int 1000]) (.sh, .int 200) = .ok (.ow .sh, .list (List.replicate 200 (.int 1000))) := rep_one (m := .sh) (n := 200) (by omega)
  have a2 := add_ow (xs := ((List.range 30).map (fun k => if k < 20 then (10000 : Int) else 0)).map .int) (ys := List.replicate 10 (.int (-20000))) (by simp)
  have eL : ((List.range 30).map (fun k => if k < 20 then (10000 : Int) else 0)).map PyData.int ++ List.replicate 10 (.int (-20000)) = gLoad.map .int := by
    unfold gLoad
    rw [List.map_append, List.map_replicate]
  have eF : List.replicate 200 (PyData.int 1000) = gFull.map .int := by
    unfold gFull
    rw [List.map_replicate]
  rw [eL] at a2
  rw [eF] at m2
  have hrg : ∀ S : SS, k_fRg1 true ((.sh, .int 20), S) = .ok ((.sh, .tuple (natsD 20)), S) := fun S => k_fRg1_t (m := .sh) (n := 20) (by omega)
  have h1 := n1
  have h2 := n2
  have h4 := n4
  have h5 := n5
  have h6 := n6
  have h9 := n9
  have h10 := n10
  have c1 := cutN
  have c2 := cutM
  have e1 := g1_ok
  have e2 := g2_ok
  have e3 := fun x0 x2 x3 x4 => g3_ok (x0 := x0) (x2 := x2) (x3 := x3) (x4 := x4)
  have dx : dV lX = .tuple [.str (lN 38), .str (lN 39), .int 1, .int 0] := rfl
  rw [dx] at a1 so c2
  unfold m__law_great_fine b__law_great_fine
  generalize gLoad.map PyData.int = gl at *
  generalize gFull.map PyData.int = gf at *
  generalize ((List.range 30).map (fun k => if k < 20 then (10000 : Int) else 0)).map PyData.int = g30 at *
  generalize List.replicate 10 (PyData.int (-20000)) = gm at *
  generalize (lVs.drop 1 ++ [lX]).map dV = dr at *
  generalize lVs.map dV = gv at *
  generalize lYs.map PyData.str = gy at *
  generalize lSh.map PyData.str = gs at *
  simp [-List.append_assoc, r1, r2, r3, e1, e2, e3, x1, x2, a1, so, h1, h2, h3, h4, h5, h6, h9, h10, n7, n8, c1, c2, m1, m2, a2, hrg, isnot_bl]
end C53
set_option maxRecDepth 100000
set_option maxHeartbeats 4000000
namespace O
open PySem
/-- a list that is made with draws, place by place -/
theorem lc_inv2 {vs : List Nat} {g : FG} {tt : FT} {te : FE} {Inv : SS → Prop} {P : D → D → Prop} : ∀ {ds acc : List D} {S : SS}, (∀ d ∈ ds, ∀ S, Inv S → ∃ r S' v, itD vs g tt te d S = .ok (some r, S') ∧ Inv S' ∧ giveR r = .ok (.sh, v) ∧ P d v) → Inv S → acc.length + ds.length ≤ 1000000 → ∃ us S', lcD vs g tt te ds acc S = .ok (acc ++ us, S') ∧ Inv S' ∧ us.length = ds.length ∧ ∀ (k : Nat) (h : k < us.length) (h' : k < ds.length), P ds[k] us[k]
  | [], acc, S, _, hi, _ => ⟨[], S, by simp [lcD], hi, rfl, by simp⟩
  | d :: ds, acc, S, h, hi, hs => by
    obtain ⟨r, S', v, h0, hi', hg, hP⟩ := h d List.mem_cons_self S hi
    obtain ⟨S1, b, S2, e1, e2, h3⟩ := it_ok h0
    simp only [List.length_cons] at hs
    rcases h3 with ⟨rfl, q, S3, e3, e4, e5⟩ | ⟨rfl, e4, e5⟩
    · cases e4
      obtain ⟨us, S4, e6, h6, h7, h8⟩ := lc_inv2 (Inv := Inv) (P := P) (ds := ds) (acc := acc ++ [v]) (S := S') (fun x hx => h x (List.mem_cons_of_mem _ hx)) hi' (by simp; omega)
      refine ⟨v :: us, S4, ?_, h6, by simp [h7], ?_⟩
      · rw [lcD, e1, ex_bind, e2, ex_bind]
        dsimp only
        rw [if_pos rfl, e3, ex_bind, hg, ex_bind, if_pos (by have : 1000000 ≤ sizeLine := by decide
                                                             omega), ← e5, e6]
        simp
      · intro k h1 h2
        cases k with
        | zero => exact hP
        | succ k => exact h8 k (by simpa using h1) (by simpa using h2)
    · cases e4
/-- .. with a test -/
theorem lc_invT {vs : List Nat} {g : FG} {tt : FT} {te : FE} {Inv : SS → Prop} {P : D → Prop} : ∀ {ds acc : List D} {S : SS}, (∀ d ∈ ds, ∀ S, Inv S → ∃ o S', itD vs g tt te d S = .ok (o, S') ∧ Inv S' ∧ ∀ r, o = some r → ∃ v, giveR r = .ok (.sh, v) ∧ P v) → Inv S → acc.length + ds.length ≤ 1000000 → ∃ us S', lcD vs g tt te ds acc S = .ok (acc ++ us, S') ∧ Inv S' ∧ us.length ≤ ds.length ∧ ∀ u ∈ us, P u
  | [], acc, S, _, hi, _ => ⟨[], S, by simp [lcD], hi, by simp, by simp⟩
  | d :: ds, acc, S, h, hi, hs => by
    obtain ⟨o, S', h0, hi', hg⟩ := h d List.mem_cons_self S hi
    obtain ⟨S1, b, S2, e1, e2, h3⟩ := it_ok h0
    simp only [List.length_cons] at hs
    rcases h3 with ⟨rfl, q, S3, e3, e4, e5⟩ | ⟨rfl, e4, e5⟩
    · subst e4
      obtain ⟨v, hv, hP⟩ := hg q rfl
      obtain ⟨us, S4, e6, h6, h7, h8⟩ := lc_invT (Inv := Inv) (P := P) (ds := ds) (acc := acc ++ [v]) (S := S') (fun x hx => h x (List.mem_cons_of_mem _ hx)) hi' (by simp; omega)
      refine ⟨v :: us, S4, ?_, h6, by simp; omega, ?_⟩
      · rw [lcD, e1, ex_bind, e2, ex_bind]
        dsimp only
        rw [if_pos rfl, e3, ex_bind, hv, ex_bind, if_pos (by have : 1000000 ≤ sizeLine := by decide
                                                             omega), ← e5, e6]
        simp
      · intro u hu
        rcases List.mem_cons.mp hu with rfl | hu
        · exact hP
        · exact h8 u hu
    · obtain ⟨us, S4, e6, h6, h7, h8⟩ := lc_invT (Inv := Inv) (P := P) (ds := ds) (acc := acc) (S := S') (fun x hx => h x (List.mem_cons_of_mem _ hx)) hi' (by omega)
      refine ⟨us, S4, ?_, h6, by simp; omega, h8⟩
      rw [lcD, e1, ex_bind, e2, ex_bind]
      dsimp only
      rw [if_neg (by simp), ← e5, e6]
theorem all_int {ds : List D} (h : ∀ d ∈ ds, ∃ i : Int, d = .int i) : ∃ l : List Int, ds = l.map .int := by
  induction ds with
  | nil => exact ⟨[], rfl⟩
  | cons d ds ih =>
    obtain ⟨i, rfl⟩ := h d List.mem_cons_self
    obtain ⟨l, rfl⟩ := ih fun x hx => h x (List.mem_cons_of_mem _ hx)
    exact ⟨i :: l, rfl⟩
theorem sum_set {l : List Int} {i : Nat} (h : i < l.length) (x : Int) : (l.set i x).sum = l.sum - l[i] + x := by
  induction l generalizing i with
  | nil => simp at h
  | cons a l ih =>
    cases i with
    | zero => simp; omega
    | succ i =>
      have := ih (i := i) (by simpa using h)
      simp [this]; omega
theorem ne_nil_ok {m n : Md} {ds : List D} (h : SeqAt.shaped (.tuple ds) = true) : semNe (m, .tuple ds) (n, .tuple []) = .ok (.sh, .bool (!ds.isEmpty)) := by
  unfold semNe eqOk
  dsimp only
  rw [if_pos (by rw [h]; rfl), PyData.eqv]
  cases ds <;> simp [PyData.eqvAll]
end O
namespace C53
open PySem O
theorem ad_sum {l : List Int} {i : Nat} {p : Int} (h : i < l.length) : (ad l i p).sum = l.sum + p := by
  unfold ad
  rw [sum_set h, List.getD_eq_getElem?_getD, List.getElem?_eq_getElem h]
  simp; omega
theorem goneL_sum {ys : List Str} : ∀ {vs : List Van} {P l : List Int}, (∀ v ∈ vs, ix ys v.a < l.length ∧ ix ys v.b < l.length) → (goneL ys vs P l).sum = l.sum ∧ (goneL ys vs P l).length = l.length
  | [], _, _, _ => ⟨rfl, rfl⟩
  | v :: vs, [], l, _ => ⟨rfl, rfl⟩
  | v :: vs, p :: P, l, h => by
    obtain ⟨ha, hb⟩ := h v List.mem_cons_self
    have hb' : ix ys v.b < (ad l (ix ys v.a) p).length := by rw [ad_len]; exact hb
    obtain ⟨h1, h2⟩ := goneL_sum (ys := ys) (vs := vs) (P := P) (l := ad (ad l (ix ys v.a) p) (ix ys v.b) (-p)) (fun w hw => by
      rw [ad_len, ad_len]
      exact h w (List.mem_cons_of_mem _ hw))
    rw [goneL, h1, h2, ad_sum hb', ad_sum ha, ad_len, ad_len]
    exact ⟨by omega, rfl⟩
theorem ad_bd {l : List Int} {i : Nat} {p B : Int} (h : ∀ x ∈ l, -B ≤ x ∧ x ≤ B) (hp : -1000 ≤ p ∧ p ≤ 1000) (hB : 0 ≤ B) : ∀ x ∈ ad l i p, -(B + 1000) ≤ x ∧ x ≤ B + 1000 := by
  intro x hx
  unfold ad at hx
  rcases List.mem_or_eq_of_mem_set hx with hx | rfl
  · have := h x hx; omega
  · rw [List.getD_eq_getElem?_getD]
    by_cases hi : i < l.length
    · rw [List.getElem?_eq_getElem hi]
      have := h l[i] (List.getElem_mem hi)
      simp; omega
    · rw [List.getElem?_eq_none (by omega)]
      simp; omega
theorem goneL_bd {ys : List Str} : ∀ {vs : List Van} {P l : List Int} {B : Int}, (∀ x ∈ l, -B ≤ x ∧ x ≤ B) → (∀ p ∈ P, 0 ≤ p ∧ p ≤ 1000) → 0 ≤ B → ∀ x ∈ goneL ys vs P l, -(B + 2000 * vs.length) ≤ x ∧ x ≤ B + 2000 * vs.length
  | [], _, _, B, h, _, _ => by
    intro x hx
    have := h x hx
    simp; omega
  | v :: vs, [], l, B, h, _, hB => by
    intro x hx
    have := h x hx
    simp; omega
  | v :: vs, p :: P, l, B, h, hp, hB => by
    intro x hx
    rw [goneL] at hx
    have hp0 := hp p List.mem_cons_self
    have h1 := ad_bd (i := ix ys v.a) h (p := p) (by omega) hB
    have h2 := ad_bd (i := ix ys v.b) h1 (p := -p) (by omega) (by omega)
    have := goneL_bd (ys := ys) (vs := vs) (P := P) (B := B + 1000 + 1000) h2 (fun q hq => hp q (List.mem_cons_of_mem _ hq)) (by omega) x hx
    rw [List.length_cons]
    omega
structure Plan (vs : List Van) (P : List Int) : Prop where
  len : P.length = vs.length
  at_ : ∀ (k : Nat) (h : k < P.length) (h' : k < vs.length), 0 ≤ P[k] ∧ P[k] ≤ vs[k].r
theorem Plan.bd {ys : List Str} {vs : List Van} {P : List Int} (g : GNet ys vs) (h : Plan vs P) : ∀ p ∈ P, 0 ≤ p ∧ p ≤ 1000 := fun p hp => by
  obtain ⟨k, hk, rfl⟩ := List.mem_iff_getElem.mp hp
  have hk' : k < vs.length := by rw [← h.len]; exact hk
  have := h.at_ k hk hk'
  have := g.r vs[k] (List.getElem_mem hk')
  omega
theorem Plan.parts {vs : List Van} {P : List Int} (h : Plan vs P) : partsB vs (P.map .int) = true := by
  unfold partsB
  rw [List.all_eq_true]
  intro d hd
  obtain ⟨i, hi, rfl⟩ := mem_natsD hd
  have hk : i < P.length := by rw [h.len]; exact hi
  rw [partAt_eq hi (by simpa using hk), List.getElem_map]
  have := h.at_ i hk hi
  show (decide _ && decide _) = true
  simp [this]
theorem Plan.planB {ys : List Str} {vs : List Van} {P : List Int} (h : Plan vs P) (load : List Int) : planB ys vs load (.tuple (P.map .int)) = decide (goneL ys vs P (List.replicate ys.length 0) = load) := by
  show (decide ((P.map PyData.int).length = vs.length) && (partsB vs (P.map .int) && goneB ys vs load (P.map .int))) = _
  rw [h.parts, List.length_map, h.len]
  unfold goneB
  rw [ints_ok]
  simp
theorem gone_load {ys : List Str} {vs : List Van} {P : List Int} (g : GNet ys vs) (h : Plan vs P) (hv : vs.length ≤ 12) : loadB ys.length (.tuple ((goneL ys vs P (List.replicate ys.length 0)).map .int)) = true := by
  obtain ⟨h1, h2⟩ := goneL_sum (ys := ys) (vs := vs) (P := P) (l := List.replicate ys.length 0) (fun v hm => by
    rw [List.length_replicate]
    exact ⟨ix_lt (g.ha v hm), ix_lt (g.hb v hm)⟩)
  have h3 := goneL_bd (ys := ys) (vs := vs) (P := P) (l := List.replicate ys.length 0) (B := 0) (fun x hx => by rw [List.eq_of_mem_replicate hx]; omega) (h.bd g) (by omega)
  rw [List.length_replicate] at h2
  generalize goneL ys vs P (List.replicate ys.length 0) = G at *
  show (decide ((G.map PyData.int).length = ys.length) && ((G.map PyData.int).all (isNum (-200000) 200000) && sum0 (G.map .int))) = true
  have ha : (G.map PyData.int).all (isNum (-200000) 200000) = true := by
    rw [List.all_map, List.all_eq_true]
    intro x hx
    have := h3 x hx
    show (decide _ && decide _) = true
    rw [decide_eq_true (by omega), decide_eq_true (by omega)]
    rfl
  have hs : sum0 (G.map .int) = true := by
    unfold sum0
    rw [ints_ok]
    exact decide_eq_true (by rw [h1]; simp)
  rw [ha, hs]
  simp [h2]
end C53
set_option maxRecDepth 100000
set_option maxHeartbeats 4000000
namespace C53
open PySem O
def bTailC : FS := (sSeq (sIf (fNotT (tB1 (fCall 2 [] (m__law_same 8) (aCons (oV (fCall 3 [] m_is_plan (aCons (oV (fVar 2)) (aCons (oV (fVar 9)) (aCons (oV (fVar 11)) (aNil)))))) (aCons (oV (fOp2 semEq (oV (fCall 2 [] m__law_gone (aCons (oV (fVar 2)) (aCons (oV (fVar 11)) (aNil))))) (oP 9))) (aNil)))))) (sRet (fCon (.bool false))) (sNil)) (sSeq (sIf (fNotT (tB1 (fCall 2 [] (m__law_same 8) (aCons (oV (fCall 2 [] m_cost_of (aCons (oV (fVar 2)) (aCons (oV (fVar 7)) (aNil))))) (aCons (oV (fN semSumT (aCons (oV (fLc 15 [12] (fiA (onD rng1) (aCons (oV (fN semLen (aCons (oP 4) (aNil)))) (aNil))) (gNm 12) (ftYes) (b_law_E3))) (aNil)))) (aNil)))))) (sRet (fCon (.bool false))) (sNil)) (sSeq (sAsg (gNm 13) (fN semTupOf (aCons (oV (fLc 15 [12] (fiA (onD rng1) (aCons (oV (fN semLen (aCons (oP 3) (aNil)))) (aNil))) (gNm 12) (b_law_T4) (b_law_E4))) (aNil)))) (sSeq (sAsg (gNm 14) (fN semSumT (aCons (oV (fLc 15 [8] (fiSeq (fVar 4)) (gNm 8) (b_law_T5) (b_law_E5))) (aNil)))) (sRet (fCall 2 [] (m__law_same 8) (aCons (oV (fCall 2 [] m_room_out (aCons (oV (fVar 2)) (aCons (oV (fVar 13)) (aNil))))) (aCons (oV (fVar 14)) (aNil)))))))))
def bTailB : FS := (sSeq (sAsg (gNm 7) (fN semTupOf (aCons (oV (fLc 15 [8] (fiSeq (fVar 4)) (gNm 8) (ftYes) (b_law_E1))) (aNil)))) (sSeq (sAsg (gNm 9) (fCall 2 [] m__law_gone (aCons (oV (fVar 2)) (aCons (oV (fVar 7)) (aNil))))) (sSeq (sIf (fOrT (fNotT (tB1 (fCall 2 [] (m__law_same 8) (aCons (oV (fCall 2 [] m_is_load (aCons (oV (fVar 2)) (aCons (oV (fVar 9)) (aNil))))) (aCons (oV (fCon (.bool true))) (aNil)))))) (fNotT (tB1 (fCall 2 [] (m__law_same 8) (aCons (oV (fCall 3 [] m_is_plan (aCons (oV (fVar 2)) (aCons (oV (fVar 9)) (aCons (oV (fVar 7)) (aNil)))))) (aCons (oV (fCon (.bool true))) (aNil))))))) (sRet (fCon (.bool false))) (sNil)) (sSeq (sFor (fiA (onD rng1) (aCons (oV (fCon (.int 10))) (aNil))) (gNm 5) (b_law_L2)) (sSeq (sAsg (gNm 11) (fN semTupOf (aCons (oV (fLc 15 [8] (fiSeq (fVar 4)) (gNm 8) (ftYes) (b_law_E2))) (aNil)))) bTailC)))))
def bTailA : FS := (sSeq (sFor (fiA (onD rng1) (aCons (oV (fCon (.int 14))) (aNil))) (gNm 5) (b_law_L1)) bTailB)
def bHead : FS := (sSeq (sAsg (gNm 2) (fCall 3 [0] m__law_network (aCons (oP 1) (aCons (oV (fOp2 semAdd (oV (fCon (.int 2))) (oV (fCall 2 [0] m__law_draw (aCons (oP 1) (aCons (oV (fCon (.int 6))) (aNil))))))) (aCons (oV (fCall 2 [0] m__law_draw (aCons (oP 1) (aCons (oV (fCon (.int 13))) (aNil))))) (aNil)))))) (sSeq (sAsg (gTp 2 (gsCons (gNm 3) (gsCons (gNm 4) (gsNil)))) (fVar 2)) (sSeq (sIf (fOrT (tB1 (fOp2 semNe (oV (fN semTup (aCons (oV (fCon k_MAX_ROOM)) (aCons (oV (fCon k_MAX_COST)) (aCons (oV (fCon k_MAX_OFFICES)) (aCons (oV (fCon k_MAX_VANS)) (aCons (oV (fCon k_MAX_LOAD)) (aNil)))))))) (oV (fN semTup (aCons (oV (fCon (.int 1000))) (aCons (oV (fCon (.int 1000))) (aCons (oV (fCon (.int 40))) (aCons (oV (fCon (.int 200))) (aCons (oV (fCon (.int 200000))) (aNil)))))))))) (fNotT (tB1 (fCall 0 [] m__law_great_fine aNil)))) (sRet (fCon (.bool false))) (sNil)) (sSeq (sIf (fOrT (fNotT (tB1 (fCall 2 [] (m__law_same 8) (aCons (oV (fCall 1 [] m_is_network (aCons (oV (fVar 2)) (aNil)))) (aCons (oV (fCon (.bool true))) (aNil)))))) (fNotT (tB1 (fCall 2 [] (m__law_same 8) (aCons (oV (fCall 1 [] m_is_network (aCons (oV (fN semTup (aCons (oV (fN semTup (aNil))) (aCons (oV (fN semTup (aNil))) (aNil))))) (aNil)))) (aCons (oV (fCon (.bool true))) (aNil))))))) (sRet (fCon (.bool false))) (sNil)) (sSeq (sIf (fAndT (tB1 (fOp2 semNe (oP 4) (oV (fN semTup (aNil))))) (fNotT (tB1 (fCall 2 [] m__law_near_fine (aCons (oV (fVar 2)) (aCons (oV (fCall 2 [0] m__law_draw (aCons (oP 1) (aCons (oV (fN semLen (aCons (oP 4) (aNil)))) (aNil))))) (aNil))))))) (sRet (fCon (.bool false))) (sNil)) bTailA)))))
theorem b_law_eq : b_law = bHead := rfl

theorem cost_list {vs : List Van} {P : List Int} (h : P.length = vs.length) : (natsD vs.length).map (fun d => match d with
    | .int i => PyData.int ((match vs[i.toNat]? with | some v => v.c | none => 0) * P.getD i.toNat 0)
    | d => d) = ((vs.zip P).map fun p => p.1.c * p.2).map .int := by
  unfold natsD
  rw [List.map_map, List.map_map]
  refine List.ext_getElem (by simp [h]) fun k h1 h2 => ?_
  have hk : k < vs.length := by simpa using h1
  have hk2 : k < P.length := by omega
  rw [List.getElem_map, List.getElem_map, List.getElem_range, List.getElem_zip]
  show PyData.int ((match vs[((k : Nat) : Int).toNat]? with | some v => v.c | none => 0) * P.getD ((k : Nat) : Int).toNat 0) = PyData.int (vs[k].c * P[k])
  rw [Int.toNat_natCast, List.getElem?_eq_getElem hk, List.getD_eq_getElem?_getD, List.getElem?_eq_getElem hk2]
  rfl
theorem costs_ok {ys : List Str} {vs : List Van} {P : List Int} (g : GNet ys vs) (h : Plan vs P) {x1 x2 x3 x5 x6 x8 x9 x10 x11 x13 x14 : Option MV} : lcD [12] (gNm 12) ftYes b_law_E3 (natsD vs.length) [] [none, x1, x2, x3, some (.sh, .tuple (vs.map dV)), x5, x6, some (.sh, .tuple (P.map .int)), x8, x9, x10, x11, none, x13, x14] = .ok (((vs.zip P).map fun p => p.1.c * p.2).map .int, [none, x1, x2, x3, some (.sh, .tuple (vs.map dV)), x5, x6, some (.sh, .tuple (P.map .int)), x8, x9, x10, x11, none, x13, x14]) := by
  have hl := g.lv
  have := lc_map2 (vs := [12]) (g := gNm 12) (te := b_law_E3) (S0 := [none, x1, x2, x3, some (.sh, .tuple (vs.map dV)), x5, x6, some (.sh, .tuple (P.map .int)), x8, x9, x10, x11, none, x13, x14]) (ds := natsD vs.length) (fun d => match d with
    | .int i => PyData.int ((match vs[i.toNat]? with | some v => v.c | none => 0) * P.getD i.toNat 0)
    | d => d) (fun d hd => by
      obtain ⟨i, hi, rfl⟩ := mem_natsD hd
      have hk : i < P.length := by rw [h.len]; exact hi
      have q1 : ∀ m, semIx (.sh, .tuple (vs.map dV)) (m, .int (i : Int)) = .ok (.sh, .tuple [.str vs[i].a, .str vs[i].b, .int vs[i].r, .int vs[i].c]) := fun m => by
        rw [ix_tup (by simpa using hi), List.getElem_map]
        rfl
      have q2 : ∀ m, semIx (.sh, .tuple (P.map .int)) (m, .int (i : Int)) = .ok (.sh, .int P[i]) := fun m => by
        rw [ix_tup (by simpa using hk), List.getElem_map]
      have b1 := g.c vs[i] (List.getElem_mem hi)
      have b2 := h.bd g P[i] (List.getElem_mem hk)
      have hm : MuOk vs[i].c P[i] := mulOk_of (small_bits (n := 10) b1.1 b1.2 (by omega)) (small_bits (n := 10) b2.1 b2.2 (by omega)) (by omega)
      simp [itD, b_law_E3, q1, q2, hm, List.getElem?_eq_getElem hi, List.getElem?_eq_getElem hk]) (by simp; omega)
  rw [this, cost_list h.len]
theorem some_ok {x2 x3 x4 x5 x6 x7 x8 x9 x10 x11 x14 : Option MV} {b : Bx} {n : Nat} (hn : n ≤ 100) : ∃ (l : List Int) (b' : Bx), lcD [12] (gNm 12) b_law_T4 b_law_E4 (natsD n) [] [none, some (.bx, dB b), x2, x3, x4, x5, x6, x7, x8, x9, x10, x11, none, none, x14] = .ok (l.map .int, [none, some (.bx, dB b'), x2, x3, x4, x5, x6, x7, x8, x9, x10, x11, none, none, x14]) := by
  obtain ⟨us, S', e, ⟨b', rfl⟩, _, h⟩ := lc_invT (vs := [12]) (g := gNm 12) (tt := b_law_T4) (te := b_law_E4) (Inv := fun S => ∃ b, S = [none, some (.bx, dB b), x2, x3, x4, x5, x6, x7, x8, x9, x10, x11, none, none, x14]) (P := fun d => ∃ i : Int, d = .int i) (ds := natsD n) (acc := []) (S := [none, some (.bx, dB b), x2, x3, x4, x5, x6, x7, x8, x9, x10, x11, none, none, x14]) (by
    rintro d hd S ⟨b, rfl⟩
    obtain ⟨i, hi, rfl⟩ := mem_natsD hd
    by_cases h : b.dig 2 = 0
    · exact ⟨some (.sh, .int (i : Nat)), [none, some (.bx, dB (b.nxt 2)), x2, x3, x4, x5, x6, x7, x8, x9, x10, x11, none, none, x14], by simp [itD, b_law_T4, b_law_E4, h], ⟨_, rfl⟩, fun r hr => by cases hr; exact ⟨_, give_sh, _, rfl⟩⟩
    · exact ⟨none, [none, some (.bx, dB (b.nxt 2)), x2, x3, x4, x5, x6, x7, x8, x9, x10, x11, none, none, x14], by simp [itD, b_law_T4, b_law_E4, h], ⟨_, rfl⟩, fun r hr => by cases hr⟩) ⟨b, rfl⟩ (by simp; omega)
  obtain ⟨l, rfl⟩ := all_int h
  exact ⟨l, b', by simpa using e⟩
def outS (ys : List Str) (l : List Int) : D → Bool
  | .tuple [.str a, .str b, _, _] => decide (((ix ys a : Nat) : Int) ∈ l) && !decide (((ix ys b : Nat) : Int) ∈ l)
  | _ => false
def roomS : D → D
  | .tuple [_, _, r, _] => r
  | d => d
theorem due_ok {ys : List Str} {vs : List Van} (g : GNet ys vs) {l : List Int} {x1 x2 x5 x6 x7 x9 x10 x11 x12 x14 : Option MV} : lcD [8] (gNm 8) b_law_T5 b_law_E5 (vs.map dV) [] [none, x1, x2, some (.sh, .tuple (ys.map .str)), some (.sh, .tuple (vs.map dV)), x5, x6, x7, none, x9, x10, x11, x12, some (.sh, .tuple (l.map .int)), x14] = .ok (((vs.filter (outV ys l)).map (·.r)).map .int, [none, x1, x2, some (.sh, .tuple (ys.map .str)), some (.sh, .tuple (vs.map dV)), x5, x6, x7, none, x9, x10, x11, x12, some (.sh, .tuple (l.map .int)), x14]) := by
  have hlv := g.lv
  have := lc_mapf (vs := [8]) (g := gNm 8) (tt := b_law_T5) (te := b_law_E5) (p := outS ys l) (f := roomS) (S0 := [none, x1, x2, some (.sh, .tuple (ys.map .str)), some (.sh, .tuple (vs.map dV)), x5, x6, x7, none, x9, x10, x11, x12, some (.sh, .tuple (l.map .int)), x14]) (r := fun d => (.sh, roomS d)) (ds := vs.map dV) (acc := []) (fun d hd => by
    obtain ⟨v, hv, rfl⟩ := List.mem_map.mp hd
    refine ⟨?_, fun _ => give_sh⟩
    have ma := g.ha v hv
    have mb := g.hb v hv
    have i1 := idx_ok (m := .sh) (ds := ys.map .str) rfl ma
    have i2 := idx_ok (m := .sh) (ds := ys.map .str) rfl mb
    change semIndexT _ = .ok (.sh, .int (ix ys v.a : Nat)) at i1
    change semIndexT _ = .ok (.sh, .int (ix ys v.b : Nat)) at i2
    have kt : strsR (.sh, .tuple (ys.map .str)) = true := strsR_map fun e => by rw [e] at ma; cases ma
    have j1 := in_ints (m := .sh) (n := .sh) (l := l) (i := (ix ys v.a : Nat))
    have j2 := notin_ints (m := .sh) (n := .sh) (l := l) (i := (ix ys v.b : Nat))
    by_cases h1 : ((ix ys v.a : Nat) : Int) ∈ l
    · by_cases h2 : ((ix ys v.b : Nat) : Int) ∈ l
      · simp [itD, b_law_T5, b_law_E5, dV, outS, kt, i1, i2, j1, j2, h1, h2]
      · simp [itD, b_law_T5, b_law_E5, dV, outS, roomS, kt, i1, i2, j1, j2, h1, h2]
    · simp [itD, b_law_T5, b_law_E5, dV, outS, kt, i1, i2, j1, j2, h1]) (by simp; omega)
  rw [this, List.filter_map, List.map_map, List.map_map]
  rfl
theorem tailC_ok {ys : List Str} {vs : List Van} {P Q : List Int} (g : GNet ys vs) (h : Plan vs P) (hQ : Plan vs Q) {b : Bx} {x5 x6 x10 : Option MV} : ∃ S', bTailC [none, some (.bx, dB b), some (.sh, dNet ys vs), some (.sh, .tuple (ys.map .str)), some (.sh, .tuple (vs.map dV)), x5, x6, some (.sh, .tuple (P.map .int)), none, some (.sh, .tuple ((goneL ys vs P (List.replicate ys.length 0)).map .int)), x10, some (.sh, .tuple (Q.map .int)), none, none, none] = .ok (.rt (.sh, .bool true), S') := by
  have N := g.net
  have hlv := g.lv
  have hly := g.ly
  have p1 := is_plan_ok N (n := 1000) (k := 1) (by omega) (v := .tuple (Q.map .int)) (gdI (by have := hQ.len; omega) (fun i hi => by have := hQ.bd g i hi; exact small_bits this.1 this.2 (by omega))) (goneL ys vs P (List.replicate ys.length 0))
  rw [hQ.planB] at p1
  have p2 := law_gone_ok N hQ.len
  have p3 := eq_tups (m := .sh) (n := .sh) (l := goneL ys vs Q (List.replicate ys.length 0)) (r := goneL ys vs P (List.replicate ys.length 0))
  generalize goneL ys vs P (List.replicate ys.length 0) = G at *
  generalize goneL ys vs Q (List.replicate ys.length 0) = G2 at *
  have c1 := cost_of_ok (ys := ys) (vs := vs) (P := P) (fun v hv => by have := g.c v hv; exact small_bits this.1 this.2 (by omega)) (fun p hp => by have := h.bd g p hp; exact small_bits this.1 this.2 (by omega))
  have c2 := fun x6 x8 x10 => costs_ok g h (x1 := some (.bx, dB b)) (x2 := some (.sh, dNet ys vs)) (x3 := some (.sh, .tuple (ys.map .str))) (x5 := x5) (x6 := x6) (x8 := x8) (x9 := some (.sh, .tuple (G.map .int))) (x10 := x10) (x11 := some (.sh, .tuple (Q.map .int))) (x13 := none) (x14 := none)
  have c3 := sum_ow (l := (vs.zip P).map fun p => p.1.c * p.2)
  change semSumT _ = .ok (.sh, .int (costL vs P)) at c3
  obtain ⟨l, b', s1⟩ := some_ok (x2 := some (.sh, dNet ys vs)) (x3 := some (.sh, .tuple (ys.map .str))) (x4 := some (.sh, .tuple (vs.map dV))) (x5 := x5) (x6 := x6) (x7 := some (.sh, .tuple (P.map .int))) (x8 := none) (x9 := some (.sh, .tuple (G.map .int))) (x10 := x10) (x11 := some (.sh, .tuple (Q.map .int))) (x14 := none) (b := b) (n := ys.length) (by omega)
  have d1 := due_ok g (l := l) (x1 := some (.bx, dB b')) (x2 := some (.sh, dNet ys vs)) (x5 := x5) (x6 := x6) (x7 := some (.sh, .tuple (P.map .int))) (x9 := some (.sh, .tuple (G.map .int))) (x10 := x10) (x11 := some (.sh, .tuple (Q.map .int))) (x12 := none) (x14 := none)
  have d2 := sum_ow (l := (vs.filter (outV ys l)).map (·.r))
  change semSumT _ = .ok (.sh, .int (roomL ys vs l)) at d2
  have r1 := room_out_ok N l
  have rg1 : onD rng1 [(.sh, .int (vs.length : Int))] = .ok (natsD vs.length) := rng_ok4 (by omega)
  have rg2 : onD rng1 [(.sh, .int (ys.length : Int))] = .ok (natsD ys.length) := rng_ok4 (by omega)
  generalize costL vs P = K at *
  generalize roomL ys vs l = R at *
  generalize ((vs.zip P).map fun p => p.1.c * p.2).map PyData.int = L1 at *
  generalize ((vs.filter (outV ys l)).map (·.r)).map PyData.int = L2 at *
  unfold bTailC
  simp [p1, p2, p3, same_bl, c1, c2, c3, same_int, s1, d1, d2, r1, rg1, rg2]
end C53
set_option maxRecDepth 100000
set_option maxHeartbeats 4000000
namespace C53
open PySem O
def rD : D → Int
  | .tuple [_, _, .int r, _] => r
  | _ => 0
theorem draws_ok {ys : List Str} {vs : List Van} (g : GNet ys vs) {x2 x3 x4 x5 x6 x7 x9 x10 x11 x12 x13 x14 : Option MV} {b : Bx} : ∃ (P : List Int) (b' : Bx), Plan vs P ∧ lcD [8] (gNm 8) ftYes b_law_E1 (vs.map dV) [] [none, some (.bx, dB b), x2, x3, x4, x5, x6, x7, none, x9, x10, x11, x12, x13, x14] = .ok (P.map .int, [none, some (.bx, dB b'), x2, x3, x4, x5, x6, x7, none, x9, x10, x11, x12, x13, x14]) := by
  have hlv := g.lv
  obtain ⟨us, S', e, ⟨b', rfl⟩, hl, h⟩ := lc_inv2 (vs := [8]) (g := gNm 8) (tt := ftYes) (te := b_law_E1) (Inv := fun S => ∃ b, S = [none, some (.bx, dB b), x2, x3, x4, x5, x6, x7, none, x9, x10, x11, x12, x13, x14]) (P := fun d u => ∃ i : Int, u = .int i ∧ 0 ≤ i ∧ i ≤ rD d) (ds := vs.map dV) (acc := []) (S := [none, some (.bx, dB b), x2, x3, x4, x5, x6, x7, none, x9, x10, x11, x12, x13, x14]) (by
    rintro d hd S ⟨b, rfl⟩
    obtain ⟨v, hv, rfl⟩ := List.mem_map.mp hd
    have hr := g.r v hv
    have hp : 0 < v.r + 1 := by omega
    have hk : v.r + 1 < 2 ^ 200 := by
      have : (1002 : Int) < 2 ^ 200 := by decide
      omega
    have w := draw_ok b hp hk
    have w1 := b.dig_nn hp
    have w2 := b.dig_lt hp
    exact ⟨(.sh, .int (b.dig (v.r + 1))), [none, some (.bx, dB (b.nxt (v.r + 1))), x2, x3, x4, x5, x6, x7, none, x9, x10, x11, x12, x13, x14], .int (b.dig (v.r + 1)), by simp [itD, b_law_E1, dV, w], ⟨_, rfl⟩, by simp, _, rfl, w1, by show _ ≤ v.r; omega⟩) ⟨b, rfl⟩ (by simp; omega)
  obtain ⟨P, rfl⟩ := all_int (ds := us) (fun d hd => by
    obtain ⟨k, hk, rfl⟩ := List.mem_iff_getElem.mp hd
    obtain ⟨i, e, _⟩ := h k hk (by omega)
    exact ⟨i, e⟩)
  refine ⟨P, b', ⟨by simpa using hl, fun k h1 h2 => ?_⟩, by simpa using e⟩
  obtain ⟨i, e1, e2, e3⟩ := h k (by simpa using h1) (by simpa using h2)
  rw [List.getElem_map] at e1 e3
  cases e1
  exact ⟨e2, e3⟩
theorem gdL {l : List Int} {n : Nat} (h : ∀ i ∈ l, i.natAbs < 2 ^ 20) (hl : l.length ≤ 60) : gd 1000 1 (.tuple (l.map .int)) := gdI (by omega) h
theorem loopL2 {ys : List Str} {vs : List Van} {P G : List Int} (g : GNet ys vs) (hP : gd 1000 1 (.tuple (P.map .int))) (hG : gd 1000 1 (.tuple (G.map .int))) {x3 x4 x8 x11 x12 x13 x14 : Option MV} {b : Bx} {x5 x6 x10 : Option MV} : ∃ (b' : Bx) (y5 y6 y10 : Option MV), forD (gNm 5) b_law_L2 (natsD 10) [none, some (.bx, dB b), some (.sh, dNet ys vs), x3, x4, x5, x6, some (.sh, .tuple (P.map .int)), x8, some (.sh, .tuple (G.map .int)), x10, x11, x12, x13, x14] = .ok (.nx, [none, some (.bx, dB b'), some (.sh, dNet ys vs), x3, x4, y5, y6, some (.sh, .tuple (P.map .int)), x8, some (.sh, .tuple (G.map .int)), y10, x11, x12, x13, x14]) := by
  have N := g.net
  obtain ⟨S', e, b', y5, y6, y10, rfl⟩ := for_same (g := gNm 5) (body := b_law_L2) (P := fun _ => True) (J := fun S => ∃ (b : Bx) (x5 x6 x10 : Option MV), S = [none, some (.bx, dB b), some (.sh, dNet ys vs), x3, x4, x5, x6, some (.sh, .tuple (P.map .int)), x8, some (.sh, .tuple (G.map .int)), x10, x11, x12, x13, x14]) (by
    rintro d S _ ⟨b, x5, x6, x10, rfl⟩
    obtain ⟨u, b1, e1, hu⟩ := bent_ok (n := 1000) (by omega) (by omega) 8 1 _ b (by omega) hG
    obtain ⟨w, b2, e2, hw⟩ := bent_ok (n := 1000) (by omega) (by omega) 8 1 _ b1 (by omega) hP
    have i1 := is_load_ok (ys := ys) (vs := vs) (by omega) hu
    have i2 := load_due_ok (ys := ys) (vs := vs) (by omega) hu
    have i3 := is_plan_ok N (by omega) hw G
    have i4 := plan_due_ok N (by omega) hw G
    refine ⟨_, [none, some (.bx, dB b2), some (.sh, dNet ys vs), x3, x4, some (.sh, d), some (.sh, u), some (.sh, .tuple (P.map .int)), x8, some (.sh, .tuple (G.map .int)), some (.sh, w), x11, x12, x13, x14], rfl, ?_, _, _, _, _, rfl⟩
    simp [b_law_L2, e1, e2, i1, i2, i3, i4, same_bl]) (ds := natsD 10) (S := [none, some (.bx, dB b), some (.sh, dNet ys vs), x3, x4, x5, x6, some (.sh, .tuple (P.map .int)), x8, some (.sh, .tuple (G.map .int)), x10, x11, x12, x13, x14]) (fun _ _ => trivial) ⟨_, _, _, _, rfl⟩
  exact ⟨b', y5, y6, y10, e⟩
theorem tailB_ok {ys : List Str} {vs : List Van} (g : GNet ys vs) (hv : vs.length ≤ 12) {b : Bx} {x5 x6 : Option MV} : ∃ S', bTailB [none, some (.bx, dB b), some (.sh, dNet ys vs), some (.sh, .tuple (ys.map .str)), some (.sh, .tuple (vs.map dV)), x5, x6, none, none, none, none, none, none, none, none] = .ok (.rt (.sh, .bool true), S') := by
  have N := g.net
  have hly := g.ly
  obtain ⟨P, b1, hP, e1⟩ := draws_ok g (x2 := some (.sh, dNet ys vs)) (x3 := some (.sh, .tuple (ys.map .str))) (x4 := some (.sh, .tuple (vs.map dV))) (x5 := x5) (x6 := x6) (x7 := none) (x9 := none) (x10 := none) (x11 := none) (x12 := none) (x13 := none) (x14 := none) (b := b)
  have l1 := law_gone_ok N hP.len
  have hload := gone_load g hP hv
  have hbd := hP.bd g
  have gP : gd 1000 1 (.tuple (P.map .int)) := gdI (by have := hP.len; omega) (fun i hi => by have := hbd i hi; exact small_bits this.1 this.2 (by omega))
  have h3 := goneL_bd (ys := ys) (vs := vs) (P := P) (l := List.replicate ys.length 0) (B := 0) (fun x hx => by rw [List.eq_of_mem_replicate hx]; omega) hbd (by omega)
  have h4 := (goneL_sum (ys := ys) (vs := vs) (P := P) (l := List.replicate ys.length 0) (fun v hm => by
    rw [List.length_replicate]
    exact ⟨ix_lt (g.ha v hm), ix_lt (g.hb v hm)⟩)).2
  rw [List.length_replicate] at h4
  have gG : gd 1000 1 (.tuple ((goneL ys vs P (List.replicate ys.length 0)).map .int)) := gdI (by omega) (fun i hi => by
    have := h3 i hi
    have : (2 : Nat) ^ 20 = 1048576 := by decide
    omega)
  have il := is_load_ok (ys := ys) (vs := vs) (n := 1000) (k := 1) (by omega) gG
  rw [hload] at il
  have ip := is_plan_ok N (n := 1000) (k := 1) (by omega) gP (goneL ys vs P (List.replicate ys.length 0))
  rw [hP.planB, decide_eq_true rfl] at ip
  obtain ⟨b2, y5, y6, y10, e2⟩ := loopL2 g gP gG (x3 := some (.sh, .tuple (ys.map .str))) (x4 := some (.sh, .tuple (vs.map dV))) (x8 := none) (x11 := none) (x12 := none) (x13 := none) (x14 := none) (b := b1) (x5 := x5) (x6 := x6) (x10 := none)
  obtain ⟨Q, b3, hQ, e3⟩ := draws_ok g (x2 := some (.sh, dNet ys vs)) (x3 := some (.sh, .tuple (ys.map .str))) (x4 := some (.sh, .tuple (vs.map dV))) (x5 := y5) (x6 := y6) (x7 := some (.sh, .tuple (P.map .int))) (x9 := some (.sh, .tuple ((goneL ys vs P (List.replicate ys.length 0)).map .int))) (x10 := y10) (x11 := none) (x12 := none) (x13 := none) (x14 := none) (b := b2)
  change lcD [8] (gNm 8) ftYes b_law_E2 _ _ _ = _ at e3
  obtain ⟨S', e4⟩ := tailC_ok g hP hQ (b := b3) (x5 := y5) (x6 := y6) (x10 := y10)
  have r10 : onD rng1 [(.sh, .int 10)] = .ok (natsD 10) := rng_ok4 (m := .sh) (n := 10) (by decide)
  refine ⟨S', ?_⟩
  generalize (goneL ys vs P (List.replicate ys.length 0)).map PyData.int = G at *
  generalize P.map PyData.int = PP at *
  generalize Q.map PyData.int = QQ at *
  unfold bTailB
  generalize bTailC = tc at *
  simp [e1, l1, il, ip, same_bl, r10, e2, e3, e4]
theorem tailA_ok {ys : List Str} {vs : List Van} (g : GNet ys vs) (hv : vs.length ≤ 12) {b : Bx} : ∃ S', bTailA [none, some (.bx, dB b), some (.sh, dNet ys vs), some (.sh, .tuple (ys.map .str)), some (.sh, .tuple (vs.map dV)), none, none, none, none, none, none, none, none, none, none] = .ok (.rt (.sh, .bool true), S') := by
  have hly := g.ly
  have hg := gd_net (ys := ys) (vs := vs) g.nm (by omega) g.vok (by omega)
  obtain ⟨S1, e, b', y5, y6, rfl⟩ := for_same (g := gNm 5) (body := b_law_L1) (P := fun _ => True) (J := fun S => ∃ (b : Bx) (x5 x6 : Option MV), S = [none, some (.bx, dB b), some (.sh, dNet ys vs), some (.sh, .tuple (ys.map .str)), some (.sh, .tuple (vs.map dV)), x5, x6, none, none, none, none, none, none, none, none]) (by
    rintro d S _ ⟨b, x5, x6, rfl⟩
    obtain ⟨u, b1, e1, hu⟩ := bent_ok (n := 1000) (by omega) (by omega) 8 3 _ b (by omega) hg
    have i1 := is_network_ok (by omega) (by omega) hu
    have i2 := network_due_ok (by omega) (by omega) hu
    refine ⟨_, [none, some (.bx, dB b1), some (.sh, dNet ys vs), some (.sh, .tuple (ys.map .str)), some (.sh, .tuple (vs.map dV)), some (.sh, d), some (.sh, u), none, none, none, none, none, none, none, none], rfl, ?_, _, _, _, rfl⟩
    simp [b_law_L1, e1, i1, i2, same_bl]) (ds := natsD 14) (S := [none, some (.bx, dB b), some (.sh, dNet ys vs), some (.sh, .tuple (ys.map .str)), some (.sh, .tuple (vs.map dV)), none, none, none, none, none, none, none, none, none, none]) (fun _ _ => trivial) ⟨_, _, _, rfl⟩
  obtain ⟨S', e2⟩ := tailB_ok g hv (b := b') (x5 := y5) (x6 := y6)
  have r14 : onD rng1 [(.sh, .int 14)] = .ok (natsD 14) := rng_ok4 (m := .sh) (n := 14) (by decide)
  refine ⟨S', ?_⟩
  unfold bTailA
  generalize bTailB = tb at *
  simp [r14, e, e2]
theorem law_true (ns : List Int) : runLaw 13 b_law ns = .ok (.sh, .bool true) := by
  have hd1 := draw_ok ⟨ns, 0, 4711 + ns.length⟩ (k := 6) (by decide) (by decide)
  have n1 := (Bx.mk ns 0 (4711 + ns.length)).dig_nn (k := 6) (by decide)
  have n2 := (Bx.mk ns 0 (4711 + ns.length)).dig_lt (k := 6) (by decide)
  have hd2 := draw_ok ((Bx.mk ns 0 (4711 + ns.length)).nxt 6) (k := 13) (by decide) (by decide)
  have n3 := ((Bx.mk ns 0 (4711 + ns.length)).nxt 6).dig_nn (k := 13) (by decide)
  have n4 := ((Bx.mk ns 0 (4711 + ns.length)).nxt 6).dig_lt (k := 13) (by decide)
  generalize ((Bx.mk ns 0 (4711 + ns.length)).nxt 6).nxt 13 = b1 at *
  generalize ((Bx.mk ns 0 (4711 + ns.length)).nxt 6).dig 13 = count at *
  generalize (Bx.mk ns 0 (4711 + ns.length)).nxt 6 = b0 at *
  generalize (Bx.mk ns 0 (4711 + ns.length)).dig 6 = many at *
  obtain ⟨many, rfl⟩ := Int.eq_ofNat_of_zero_le n1
  obtain ⟨count, rfl⟩ := Int.eq_ofNat_of_zero_le n3
  obtain ⟨ys, vs, b2, e1, g, hv⟩ := network_ok b1 (many := 2 + many) (count := count) (by omega) (by omega)
  have e1 : m__law_network [(.bx, dB b1), (.sh, .int (2 + (many : Int))), (.sh, .int (count : Int))] = .ok ((.sh, dNet ys vs), [(.bx, dB b2)]) := by
    rw [show (2 + (many : Int)) = ((2 + many : Nat) : Int) by omega]
    exact e1
  have hv12 : vs.length ≤ 12 := by omega
  have hly := g.ly
  have hg := gd_net (ys := ys) (vs := vs) g.nm (by omega) g.vok (by omega)
  have i1 := is_network_ok (n := 1000) (k := 3) (by omega) (by omega) hg
  rw [netB_true g.nm g.ly g.an g.vok (by omega) g.av] at i1
  have i2 : m_is_network [(.sh, .tuple [.tuple [], .tuple []])] = .ok ((.sh, .bool true), []) := by
    have := is_network_ok (n := 1000) (k := 3) (by omega) (by omega) (v := .tuple [.tuple [], .tuple []]) (by rw [gd_tup]; exact ⟨by simp, by simp⟩)
    rw [show netB (.tuple [.tuple [], .tuple []]) = true by decide +kernel] at this
    exact this
  have hne : semNe (.sh, .tuple [.int 1000, .int 1000, .int 40, .int 200, .int 200000]) (.sh, .tuple [.int 1000, .int 1000, .int 40, .int 200, .int 200000]) = .ok (.sh, .bool false) := by rfl
  have hshape : SeqAt.shaped (.tuple (vs.map dV)) = true := (shaped_all (n := 1000) (k := 1) (fun d hd => by
    obtain ⟨v, hv, rfl⟩ := List.mem_map.mp hd
    exact gd_van g.nm (g.vok v hv) (by omega)) (by omega)).1
  have hn := ne_nil_ok (m := .sh) (n := .sh) hshape
  have hb0 : (none :: some (Md.bx, boxD ns) :: List.replicate 13 none : SS) = [none, some (.bx, dB ⟨ns, 0, 4711 + ns.length⟩), none, none, none, none, none, none, none, none, none, none, none, none, none] := rfl
  unfold runLaw
  rw [hb0, b_law_eq]
  cases vs with
  | nil =>
    obtain ⟨S', e2⟩ := tailA_ok g hv12 (b := b2)
    unfold bHead
    generalize bTailA = ta at *
    simp only [dNet, List.map_nil, List.isEmpty_nil, Bool.not_true] at e1 e2 i1 hn
    simp [hd1, hd2, e1, k_MAX_ROOM, k_MAX_COST, k_MAX_OFFICES, k_MAX_VANS, k_MAX_LOAD, hne, great_ok, i1, i2, same_bl, hn, e2]
  | cons v vs =>
    have hp : (0 : Int) < ((v :: vs).length : Nat) := by simp
    have hk : (((v :: vs).length : Nat) : Int) < 2 ^ 200 := by omega
    have hd3 := draw_ok b2 hp hk
    have j1 := b2.dig_nn hp
    have j2 := b2.dig_lt hp
    generalize b2.nxt ((v :: vs).length : Nat) = b3 at *
    generalize b2.dig ((v :: vs).length : Nat) = j at *
    obtain ⟨j, rfl⟩ := Int.eq_ofNat_of_zero_le j1
    have nf := near_ok g (j := j) (by omega)
    obtain ⟨S', e2⟩ := tailA_ok g hv12 (b := b3)
    have hE : ((v :: vs).map dV).isEmpty = false := rfl
    rw [hE] at hn
    have hL : ((v :: vs).length : Int) = (((v :: vs).map dV).length : Int) := by rw [List.length_map]
    rw [hL] at hd3
    unfold bHead
    generalize bTailA = ta at *
    simp only [dNet] at e1 e2 i1 nf
    generalize (v :: vs).map dV = vd at *
    simp [hd1, hd2, e1, k_MAX_ROOM, k_MAX_COST, k_MAX_OFFICES, k_MAX_VANS, k_MAX_LOAD, hne, great_ok, i1, i2, same_bl, hn, hd3, nf, e2]
end C53
set_option maxRecDepth 100000
open PySem PySem.W PyProof.Rows
set_option maxHeartbeats 0 in
theorem PySem.Challenge.cw_backtohand_k53_networks_and_plans_holds : PySem.Challenge.rw_backtohand_k53_networks_and_plans.Holds := by
  w_on; o_law; k_head; (case hw => w_witness2)
  k_fill
  refine O.walk_ofTabs (l := PySem.Challenge.rw_backtohand_k53_networks_and_plans) (n := 63) (k := 12) (x := "script") (CX := fun _ => C8.CX0) rfl (by decide) rfl ⟨rfl, by decide, by decide⟩ (fun w h Y => PySem.W.kIn_of Y) ?F (fun _ _ _ _ _ h => h)
  case F =>
    intro w mg fa h Y KX G hmg TT
    refine' Yk53.all_mk KX G hmg TT ?a_is_name ?l_is_name ?c_is_name ?k_is_name ?a_is_number ?l_is_number ?c_is_number ?k_is_number ?a_is_ascending ?l_is_ascending ?c_is_ascending ?k_is_ascending ?a_is_van ?l_is_van ?c_is_van ?k_is_van ?a_is_network ?l_is_network ?c_is_network ?k_is_network ?a_numbered ?l_numbered ?c_numbered ?k_numbered ?a_is_load ?l_is_load ?c_is_load ?k_is_load ?a_gone ?l_gone ?c_gone ?k_gone ?a_is_plan ?l_is_plan ?c_is_plan ?k_is_plan ?a_cost_of ?l_cost_of ?c_cost_of ?k_cost_of ?a_room_out ?l_room_out ?c_room_out ?k_room_out ?a__law_box ?l__law_box ?c__law_box ?k__law_box ?a__law_load ?l__law_load ?c__law_load ?k__law_load ?a__law_draw ?l__law_draw ?c__law_draw ?k__law_draw ?a__law_same ?l__law_same ?c__law_same ?k__law_same ?a__law_names ?l__law_names ?c__law_names ?k__law_names ?a__law_bent ?l__law_bent ?c__law_bent ?k__law_bent ?a__law_whole ?l__law_whole ?c__law_whole ?k__law_whole ?a__law_is_name ?l__law_is_name ?c__law_is_name ?k__law_is_name ?a__law_is_van ?l__law_is_van ?c__law_is_van ?k__law_is_van ?a__law_network_due ?l__law_network_due ?c__law_network_due ?k__law_network_due ?a__law_gone ?l__law_gone ?c__law_gone ?k__law_gone ?a__law_load_due ?l__law_load_due ?c__law_load_due ?k__law_load_due ?a__law_plan_due ?l__law_plan_due ?c__law_plan_due ?k__law_plan_due ?a__law_network ?l__law_network ?c__law_network ?k__law_network ?a__law_near_fine ?l__law_near_fine ?c__law_near_fine ?k__law_near_fine ?a__law_great_fine ?l__law_great_fine ?c__law_great_fine ?k__law_great_fine ?a_law ?l_law ?c_law ?k_law ?w_is_name ?u_is_name ?t_is_name ?n_is_name ?r_is_name ?w_is_ascending ?u_is_ascending ?t_is_ascending ?n_is_ascending ?r_is_ascending ?w_is_network ?u_is_network ?t_is_network ?n_is_network ?r_is_network ?w_is_load ?u_is_load ?t_is_load ?n_is_load ?r_is_load ?w_is_plan ?u_is_plan ?t_is_plan ?n_is_plan ?r_is_plan ?w_cost_of ?u_cost_of ?t_cost_of ?n_cost_of ?r_cost_of ?w_room_out ?u_room_out ?t_room_out ?n_room_out ?r_room_out ?z_all ?z_bool ?z_enumerate ?z_int ?z_isinstance ?z_len ?z_list ?z_range ?z_set ?z_sorted ?z_str ?z_sum ?z_tuple ?z_zip ?g_DIGITS ?d_DIGITS ?g_MAX_COST ?d_MAX_COST ?g_MAX_LOAD ?d_MAX_LOAD ?g_MAX_OFFICES ?d_MAX_OFFICES ?g_MAX_ROOM ?d_MAX_ROOM ?g_MAX_VANS ?d_MAX_VANS ?g_RESERVED ?d_RESERVED ?g_SMALL ?d_SMALL (fun ns _ => C53.law_true ns)
    (case a_is_name => k_is)
    (case l_is_name => k_is)
    (case c_is_name => k_is)
    (case k_is_name => k_is)
    (case a_is_number => k_is)
    (case l_is_number => k_is)
    (case c_is_number => k_is)
    (case k_is_number => k_is)
    (case a_is_ascending => k_is)
    (case l_is_ascending => k_is)
    (case c_is_ascending => k_is)
    (case k_is_ascending => k_is)
    (case a_is_van => k_is)
    (case l_is_van => k_is)
    (case c_is_van => k_is)
    (case k_is_van => k_is)
    (case a_is_network => k_is)
    (case l_is_network => k_is)
    (case c_is_network => k_is)
    (case k_is_network => k_is)
    (case a_numbered => k_is)
    (case l_numbered => k_is)
    (case c_numbered => k_is)
    (case k_numbered => k_is)
    (case a_is_load => k_is)
    (case l_is_load => k_is)
    (case c_is_load => k_is)
    (case k_is_load => k_is)
    (case a_gone => k_is)
    (case l_gone => k_is)
    (case c_gone => k_is)
    (case k_gone => k_is)
    (case a_is_plan => k_is)
    (case l_is_plan => k_is)
    (case c_is_plan => k_is)
    (case k_is_plan => k_is)
    (case a_cost_of => k_is)
    (case l_cost_of => k_is)
    (case c_cost_of => k_is)
    (case k_cost_of => k_is)
    (case a_room_out => k_is)
    (case l_room_out => k_is)
    (case c_room_out => k_is)
    (case k_room_out => k_is)
    (case a__law_box => k_is)
    (case l__law_box => k_is)
    (case c__law_box => k_is)
    (case k__law_box => k_is)
    (case a__law_load => k_is)
    (case l__law_load => k_is)
    (case c__law_load => k_is)
    (case k__law_load => k_is)
    (case a__law_draw => k_is)
    (case l__law_draw => k_is)
    (case c__law_draw => k_is)
    (case k__law_draw => k_is)
    (case a__law_same => k_is)
    (case l__law_same => k_is)
    (case c__law_same => k_is)
    (case k__law_same => k_is)
    (case a__law_names => k_is)
    (case l__law_names => k_is)
    (case c__law_names => k_is)
    (case k__law_names => k_is)
    (case a__law_bent => k_is)
    (case l__law_bent => k_is)
    (case c__law_bent => k_is)
    (case k__law_bent => k_is)
    (case a__law_whole => k_is)
    (case l__law_whole => k_is)
    (case c__law_whole => k_is)
    (case k__law_whole => k_is)
    (case a__law_is_name => k_is)
    (case l__law_is_name => k_is)
    (case c__law_is_name => k_is)
    (case k__law_is_name => k_is)
    (case a__law_is_van => k_is)
    (case l__law_is_van => k_is)
    (case c__law_is_van => k_is)
    (case k__law_is_van => k_is)
    (case a__law_network_due => k_is)
    (case l__law_network_due => k_is)
    (case c__law_network_due => k_is)
    (case k__law_network_due => k_is)
    (case a__law_gone => k_is)
    (case l__law_gone => k_is)
    (case c__law_gone => k_is)
    (case k__law_gone => k_is)
    (case a__law_load_due => k_is)
    (case l__law_load_due => k_is)
    (case c__law_load_due => k_is)
    (case k__law_load_due => k_is)
    (case a__law_plan_due => k_is)
    (case l__law_plan_due => k_is)
    (case c__law_plan_due => k_is)
    (case k__law_plan_due => k_is)
    (case a__law_network => k_is)
    (case l__law_network => k_is)
    (case c__law_network => k_is)
    (case k__law_network => k_is)
    (case a__law_near_fine => k_is)
    (case l__law_near_fine => k_is)
    (case c__law_near_fine => k_is)
    (case k__law_near_fine => k_is)
    (case a__law_great_fine => k_is)
    (case l__law_great_fine => k_is)
    (case c__law_great_fine => k_is)
    (case k__law_great_fine => k_is)
    (case a_law => k_is)
    (case l_law => k_is)
    (case c_law => k_is)
    (case k_law => k_is)
    (case w_is_name => k_is)
    (case u_is_name => exact rfl)
    (case t_is_name => kernel_rfl)
    (case n_is_name => kernel_rfl)
    (case r_is_name => kernel_rfl)
    (case w_is_ascending => k_is)
    (case u_is_ascending => exact rfl)
    (case t_is_ascending => kernel_rfl)
    (case n_is_ascending => kernel_rfl)
    (case r_is_ascending => kernel_rfl)
    (case w_is_network => k_is)
    (case u_is_network => exact rfl)
    (case t_is_network => kernel_rfl)
    (case n_is_network => kernel_rfl)
    (case r_is_network => kernel_rfl)
    (case w_is_load => k_is)
    (case u_is_load => exact rfl)
    (case t_is_load => kernel_rfl)
    (case n_is_load => kernel_rfl)
    (case r_is_load => kernel_rfl)
    (case w_is_plan => k_is)
    (case u_is_plan => exact rfl)
    (case t_is_plan => kernel_rfl)
    (case n_is_plan => kernel_rfl)
    (case r_is_plan => kernel_rfl)
    (case w_cost_of => k_is)
    (case u_cost_of => exact rfl)
    (case t_cost_of => kernel_rfl)
    (case n_cost_of => kernel_rfl)
    (case r_cost_of => kernel_rfl)
    (case w_room_out => k_is)
    (case u_room_out => exact rfl)
    (case t_room_out => kernel_rfl)
    (case n_room_out => kernel_rfl)
    (case r_room_out => kernel_rfl)
    (case z_all => k_is)
    (case z_bool => k_is)
    (case z_enumerate => k_is)
    (case z_int => k_is)
    (case z_isinstance => k_is)
    (case z_len => k_is)
    (case z_list => k_is)
    (case z_range => k_is)
    (case z_set => k_is)
    (case z_sorted => k_is)
    (case z_str => k_is)
    (case z_sum => k_is)
    (case z_tuple => k_is)
    (case z_zip => k_is)
    (case g_DIGITS => k_is)
    (case d_DIGITS => kernel_rfl)
    (case g_MAX_COST => k_is)
    (case d_MAX_COST => kernel_rfl)
    (case g_MAX_LOAD => k_is)
    (case d_MAX_LOAD => kernel_rfl)
    (case g_MAX_OFFICES => k_is)
    (case d_MAX_OFFICES => kernel_rfl)
    (case g_MAX_ROOM => k_is)
    (case d_MAX_ROOM => kernel_rfl)
    (case g_MAX_VANS => k_is)
    (case d_MAX_VANS => kernel_rfl)
    (case g_RESERVED => k_is)
    (case d_RESERVED => kernel_rfl)
    (case g_SMALL => k_is)
    (case d_SMALL => kernel_rfl)
