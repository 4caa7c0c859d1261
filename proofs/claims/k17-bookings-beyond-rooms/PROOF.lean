import PyProof.Rows.All
import HandS.ForMost
import HandS.ForExc
import HandS.Wide
import HandS.WideBits
import HandS.Conv
import HandS.Deep
import HandS.IsInst
import HandS.AnyAll
import HandS.Exc
import HandS.HeadHook1
import HandS.TupLe
import HandS.TupAny
import HandS.TupMul
import HandS.RevTup
import HandS.Rev
import HandS.Walk
import HandS.ExcOwn
import HandS.Style
import HandS.WideMore
import HandS.Zip
import HandS.Defaults
import KE.KStateDown
import HandS.Ends
import HandS.HeadEnd
import HandS.HeadWalk
import HandS.Head0
import HandS.Head1
import HandS.Head2
import HandS.HeadHook2
import HandS.GenList
import KE.IntBitsLaws
import HandS.Gcd
import HandS.Star
import HandS.ExcIs
import HandS.SortInts
import HandS.TryOnly
import PySem.Challenge.RW_guestsheld_k17_whole_bookings_beyond_roo
import HandS.Head3
set_option Elab.async false
set_option linter.all false
set_option maxRecDepth 100000
set_option maxHeartbeats 1000000
/-! FL: a functional meaning of a def, over the hand layer. Core: data, slots, what it means that they stand in the heap. -/
namespace FL
open PySem PySem.Spec PyProof.Rows L2
abbrev D := PyData

/-! ### data that never changes -/
def FzL (H : Hp) (a : Addr) (xs : List V) : Prop := ∃ o, H a = some (.frz o (.lst xs))
theorem FzL.rd {H : Hp} {a : Addr} {xs : List V} (h : FzL H a xs) : Rd H a (.lst xs) := .inr h
/-- a caught exception, of the class at C: it never changes -/
def xcO (a C : Addr) : HO := .ext fun h => ∃ oe, h.get? a = some oe ∧ Zc (.ref C) none oe ∧ ∃ vs, oe.data = .fields vs
/-- the data that stands for a caught exception of the class named c -/
abbrev xD (c : Str) : D := .dict [(.none, .str c)]
mutual
def Fz (K : PySem.W.Frag) (H : Hp) : D → V → Prop
  | .none, v => v = .non
  | .bool b, v => v = .bl b
  | .int i, v => v = .int i
  | .str x, v => v = .str x
  | .list ds, v => ∃ a xs, v = .ref a ∧ FzL H a xs ∧ FzAll K H ds xs
  | .tuple ds, v => ∃ a xs, v = .ref a ∧ SqT K H a xs ∧ FzAll K H ds xs
  | .dict kvs, v => ∃ c a, kvs = [(.none, .str c)] ∧ v = .ref a ∧ H a = some (xcO a (He.ga K c))
def FzAll (K : PySem.W.Frag) (H : Hp) : List D → List V → Prop
  | [], xs => xs = []
  | d :: ds, xs => ∃ x r, xs = x :: r ∧ Fz K H d x ∧ FzAll K H ds r
end
/-- what never changes is kept -/
def Imm (H H' : Hp) : Prop := (∀ b xs, H b = some (.tup xs) → H' b = some (.tup xs)) ∧ (∀ b o u, H b = some (.frz o u) → H' b = some (.frz o u)) ∧ ∀ b φ, H b = some (.ext φ) → H' b = some (.ext φ)
theorem Imm.refl (H : Hp) : Imm H H := ⟨fun _ _ e => e, fun _ _ _ e => e, fun _ _ e => e⟩
theorem Imm.trans {H H1 H2 : Hp} (a : Imm H H1) (b : Imm H1 H2) : Imm H H2 := ⟨fun c xs e => b.1 c xs (a.1 c xs e), fun c o u e => b.2.1 c o u (a.2.1 c o u e), fun c φ e => b.2.2 c φ (a.2.2 c φ e)⟩
theorem Imm.fzl {H H' : Hp} {a : Addr} {xs : List V} (m : Imm H H') (h : FzL H a xs) : FzL H' a xs := by
  obtain ⟨o, h⟩ := h
  exact ⟨o, m.2.1 _ _ _ h⟩
theorem Imm.sqt {K : PySem.W.Frag} {H H' : Hp} {a : Addr} {xs : List V} (m : Imm H H') (h : SqT K H a xs) : SqT K H' a xs := by
  rcases h with (h | ⟨o, h⟩) | h
  · exact .inl (.inl (m.1 _ _ h))
  · exact .inl (.inr ⟨o, m.2.1 _ _ _ h⟩)
  · exact .inr h
mutual
theorem Fz.mono {K : PySem.W.Frag} {H H' : Hp} (m : Imm H H') : ∀ (d : D) {v : V}, Fz K H d v → Fz K H' d v
  | .none, _, h => h
  | .bool _, _, h => h
  | .int _, _, h => h
  | .str _, _, h => h
  | .list ds, _, h => by
    obtain ⟨a, xs, e, h1, h2⟩ := h
    exact ⟨a, xs, e, m.fzl h1, FzAll.mono m ds h2⟩
  | .tuple ds, _, h => by
    obtain ⟨a, xs, e, h1, h2⟩ := h
    exact ⟨a, xs, e, m.sqt h1, FzAll.mono m ds h2⟩
  | .dict _, _, h => by
    obtain ⟨c, a, e, ev, h1⟩ := h
    exact ⟨c, a, e, ev, m.2.2 _ _ h1⟩
theorem FzAll.mono {K : PySem.W.Frag} {H H' : Hp} (m : Imm H H') : ∀ (ds : List D) {vs : List V}, FzAll K H ds vs → FzAll K H' ds vs
  | [], _, h => h
  | d :: ds, _, h => by
    obtain ⟨x, r, e, h1, h2⟩ := h
    exact ⟨x, r, e, Fz.mono m d h1, FzAll.mono m ds h2⟩
end
section
variable {K : PySem.W.Frag} {H : Hp}
theorem FzAll.length : ∀ {ds : List D} {vs : List V}, FzAll K H ds vs → ds.length = vs.length
  | [], _, h => by
    subst h
    rfl
  | d :: ds, _, h => by
    obtain ⟨x, r, e, _, h2⟩ := h
    rw [e, List.length_cons, List.length_cons, FzAll.length h2]
theorem FzAll.cons {d : D} {ds : List D} {v : V} {vs : List V} (h : Fz K H d v) (t : FzAll K H ds vs) : FzAll K H (d :: ds) (v :: vs) := ⟨v, vs, rfl, h, t⟩
theorem FzAll.nil : FzAll K H [] [] := rfl
theorem FzAll.get : ∀ {ds : List D} {vs : List V} {i : Nat} {d : D}, FzAll K H ds vs → ds[i]? = some d → ∃ v, vs[i]? = some v ∧ Fz K H d v
  | [], _, _, _, _, e => by simp at e
  | c :: ds, _, 0, d, h, e => by
    obtain ⟨x, r, e1, h1, _⟩ := h
    have e2 : c = d := by simpa using e
    subst e2
    exact ⟨x, by rw [e1]; rfl, h1⟩
  | c :: ds, _, i + 1, d, h, e => by
    obtain ⟨x, r, e1, _, h2⟩ := h
    obtain ⟨v, q1, q2⟩ := FzAll.get (i := i) (d := d) h2 (by simpa using e)
    exact ⟨v, by rw [e1]; simpa using q1, q2⟩
theorem FzAll.get' : ∀ {ds : List D} {vs : List V} {i : Nat} {v : V}, FzAll K H ds vs → vs[i]? = some v → ∃ d, ds[i]? = some d ∧ Fz K H d v
  | [], _, _, _, h, e => by rw [show _ = [] from h] at e; simp at e
  | c :: ds, _, 0, v, h, e => by
    obtain ⟨x, r, e1, h1, _⟩ := h
    rw [e1] at e
    have e2 : x = v := by simpa using e
    subst e2
    exact ⟨c, rfl, h1⟩
  | c :: ds, _, i + 1, v, h, e => by
    obtain ⟨x, r, e1, _, h2⟩ := h
    rw [e1] at e
    obtain ⟨d, q1, q2⟩ := FzAll.get' (i := i) (v := v) h2 (by simpa using e)
    exact ⟨d, by simpa using q1, q2⟩
theorem FzAll.of : ∀ {ds : List D} {vs : List V}, ds.length = vs.length → (∀ (i : Nat) (d : D) (v : V), ds[i]? = some d → vs[i]? = some v → Fz K H d v) → FzAll K H ds vs
  | [], [], _, _ => rfl
  | [], _ :: _, h, _ => by simp at h
  | _ :: _, [], h, _ => by simp at h
  | d :: ds, v :: vs, h, g => ⟨v, vs, rfl, g 0 d v rfl rfl, FzAll.of (by simpa using h) fun i d v e1 e2 => g (i + 1) d v (by simpa using e1) (by simpa using e2)⟩
theorem FzAll.append {ds es : List D} {vs ws : List V} (h : FzAll K H ds vs) (g : FzAll K H es ws) : FzAll K H (ds ++ es) (vs ++ ws) := by
  induction ds generalizing vs with
  | nil =>
    rw [show vs = [] from h]
    exact g
  | cons d ds ih =>
    obtain ⟨x, r, e, h1, h2⟩ := h
    subst e
    exact ⟨x, r ++ ws, rfl, h1, ih h2⟩
theorem FzAll.take {ds : List D} {vs : List V} (n : Nat) (h : FzAll K H ds vs) : FzAll K H (ds.take n) (vs.take n) := by
  induction ds generalizing vs n with
  | nil => rw [show vs = [] from h]; simp [FzAll.nil]
  | cons d ds ih =>
    obtain ⟨x, r, e, h1, h2⟩ := h
    subst e
    cases n with
    | zero => exact FzAll.nil
    | succ n => exact FzAll.cons h1 (ih n h2)
theorem FzAll.drop {ds : List D} {vs : List V} (n : Nat) (h : FzAll K H ds vs) : FzAll K H (ds.drop n) (vs.drop n) := by
  induction ds generalizing vs n with
  | nil => rw [show vs = [] from h]; simp [FzAll.nil]
  | cons d ds ih =>
    obtain ⟨x, r, e, h1, h2⟩ := h
    subst e
    cases n with
    | zero => exact FzAll.cons h1 h2
    | succ n => exact ih n h2
theorem FzAll.reverse {ds : List D} {vs : List V} (h : FzAll K H ds vs) : FzAll K H ds.reverse vs.reverse := by
  induction ds generalizing vs with
  | nil => rw [show vs = [] from h]; simp [FzAll.nil]
  | cons d ds ih =>
    obtain ⟨x, r, e, h1, h2⟩ := h
    subst e
    rw [List.reverse_cons, List.reverse_cons]
    exact (ih h2).append (FzAll.cons h1 FzAll.nil)
theorem FzAll.set {ds : List D} {vs : List V} {d : D} {v : V} (n : Nat) (h : FzAll K H ds vs) (g : Fz K H d v) : FzAll K H (ds.set n d) (vs.set n v) := by
  induction ds generalizing vs n with
  | nil => rw [show vs = [] from h]; simp [FzAll.nil]
  | cons c ds ih =>
    obtain ⟨x, r, e, h1, h2⟩ := h
    subst e
    cases n with
    | zero => exact FzAll.cons g h2
    | succ n => exact FzAll.cons h1 (ih n h2)
end

/-! ### a view: data that is read now; lists may be of any kind -/
def View (K : PySem.W.Frag) (H : Hp) : D → V → Prop
  | .list ds, v => ∃ a xs, v = .ref a ∧ Rd H a (.lst xs) ∧ FzAll K H ds xs
  | d, v => Fz K H d v
theorem Fz.view {K : PySem.W.Frag} {H : Hp} {d : D} {v : V} (h : Fz K H d v) : View K H d v := by
  cases d with
  | list ds =>
    obtain ⟨a, xs, e, h1, h2⟩ := h
    exact ⟨a, xs, e, h1.rd, h2⟩
  | _ => exact h
mutual
theorem Fz.dp {K : PySem.W.Frag} {H : Hp} : ∀ (d : D) {v : V}, PyData.canLay0 d = true → Fz K H d v → Dp K H v d
  | .none, _, _, h => by rw [show _ = V.non from h]; exact .non
  | .bool b, _, _, h => by rw [show _ = V.bl b from h]; exact .bl b
  | .int i, _, _, h => by rw [show _ = V.int i from h]; exact .int i
  | .str x, _, _, h => by rw [show _ = V.str x from h]; exact .str x
  | .list ds, _, z, h => by
    obtain ⟨a, xs, e, h1, h2⟩ := h
    rw [e]; exact .lst (.inl h1.rd) (FzAll.dp ds (show PyData.canLayAll0 ds = true from z) h2)
  | .tuple ds, _, z, h => by
    obtain ⟨a, xs, e, h1, h2⟩ := h
    rw [e]; exact .tup h1 (FzAll.dp ds (show PyData.canLayAll0 ds = true from z) h2)
  | .dict _, _, z, _ => by cases z
theorem FzAll.dp {K : PySem.W.Frag} {H : Hp} : ∀ (ds : List D) {vs : List V}, PyData.canLayAll0 ds = true → FzAll K H ds vs → DpAll K H vs ds
  | [], _, _, h => by rw [show _ = [] from h]; exact .nil
  | d :: ds, _, z, h => by
    obtain ⟨x, r, e, h1, h2⟩ := h
    rw [e]; exact .cons (Fz.dp d (Bool.and_eq_true_iff.mp (show (PyData.canLay0 d && PyData.canLayAll0 ds) = true from z)).1 h1) (FzAll.dp ds (Bool.and_eq_true_iff.mp (show (PyData.canLay0 d && PyData.canLayAll0 ds) = true from z)).2 h2)
end
theorem View.dp {K : PySem.W.Frag} {H : Hp} {d : D} {v : V} (z : PyData.canLay0 d = true) (h : View K H d v) : Dp K H v d := by
  cases d with
  | list ds =>
    obtain ⟨a, xs, e, h1, h2⟩ := h
    rw [e]; exact .lst (.inl h1) (FzAll.dp ds (show PyData.canLayAll0 ds = true from z) h2)
  | _ => exact Fz.dp _ z h

/-! ### slots -/
/-- how a frame's name holds a list: as its own; as one that the caller lends and takes back; only to be read -/
inductive Tag where
  | own | par | lck
  deriving DecidableEq
/-- what a slot holds -/
inductive C where
  | d (x : D)
  | l (t : Tag) (ds : List D)
/-- what an expression gives: data; a new list; the list of a slot -/
inductive R where
  | d (x : D)
  | own (ds : List D)
  | slot (i : Nat)
abbrev S := List (Option C)
abbrev ECls := Str
/-- how a step ends: with a value and the slots behind it; by an error of a class; not told -/
inductive Res (α : Type) where
  | ok (a : α) (σ : S)
  | exc (c : ECls) (σ : S)
  | bad

def CRel (K : PySem.W.Frag) (H : Hp) : C → V → Prop
  | .d x, v => Fz K H x v
  | .l _ ds, v => ∃ a vs, v = .ref a ∧ H a = some (.lst vs) ∧ FzAll K H ds vs
/-- the list of slot i stands at a, with the tag t -/
def At (σ : S) (σv : L2.St) (i : Nat) (t : Tag) (a : Addr) : Prop := (∃ ds, σ[i]? = some (some (.l t ds))) ∧ σv[i]? = some (some (.ref a))
/-- lists that may change -/
def OwnM (σ : S) (σv : L2.St) (a : Addr) : Prop := ∃ i t, t ≠ Tag.lck ∧ At σ σv i t a
/-- the table of a code object -/
def tabOf (o : Obj) : Option Addr := match o.cls, o.data with
  | .type c, .fields vs => if c = "code" then (match vs.toList[11]? with
    | some (Value.ref P) => some P
    | _ => none) else none
  | _, _ => none
/-- the code objects of the written part, their tables -/
def tabs (K : PySem.W.Frag) : List (Addr × Addr) := K.filterMap fun p => (tabOf p.2).map fun P => (p.1, P)
structure SRel (K : PySem.W.Frag) (H : Hp) (σ : S) (σv : L2.St) : Prop where
  len : σ.length = σv.length
  val : ∀ (i : Nat) (c : C), σ[i]? = some (some c) → ∃ v, σv[i]? = some (some v) ∧ CRel K H c v
  apart : ∀ (i j : Nat) (t u : Tag) (a : Addr), At σ σv i t a → At σ σv j u a → i = j
  tab : ∀ p ∈ tabs K, GxR.TabG H p.2
/-- all is kept but what stands at B (and but that tables grow); nothing that is told is forgotten -/
structure Keep (B : Addr → Prop) (H H' : Hp) : Prop where
  kept : ∀ b o, H b = some o → ¬ B b → H' b = some o ∨ ∃ ps more, o = .tbl ps ∧ H' b = some (.tbl (ps ++ more)) ∧ (TriplesOk ps.toList → TriplesOk (ps ++ more).toList)
  gone : ∀ b, H' b = none → H b = none
theorem Keep.refl (B : Addr → Prop) (H : Hp) : Keep B H H := ⟨fun _ _ e _ => .inl e, fun _ e => e⟩
theorem Keep.of_same {B : Addr → Prop} {H H' : Hp} (h : Same H H') : Keep B H H' := ⟨fun b o e _ => .inl (h b o e), fun _ e => h.free e⟩
theorem Keep.trans {B B' : Addr → Prop} {H H1 H2 : Hp} (a : Keep B H H1) (b : Keep B' H1 H2) (s : ∀ x o, H x = some o → B' x → B x) : Keep B H H2 := ⟨fun c o e n => by
  have n' : ¬ B' c := fun z => n (s c o e z)
  rcases a.kept c o e n with h | ⟨ps, more, rfl, h, t⟩
  · exact b.kept c o h n'
  · rcases b.kept c _ h n' with h2 | ⟨ps', more', e', h2, t2⟩
    · exact .inr ⟨ps, more, rfl, h2, t⟩
    · cases e'
      exact .inr ⟨ps, more ++ more', rfl, by rw [h2, Array.append_assoc], fun z => by rw [← Array.append_assoc]; exact t2 (t z)⟩, fun c e => a.gone c (b.gone c e)⟩
theorem Keep.mono {B B' : Addr → Prop} {H H' : Hp} (a : Keep B H H') (s : ∀ x o, H x = some o → B x → B' x) : Keep B' H H' := ⟨fun c o e n => a.kept c o e fun z => n (s c o e z), a.gone⟩
theorem Keep.tab {B : Addr → Prop} {H H' : Hp} {P : Addr} (k : Keep B H H') (n : ¬ B P) (h : GxR.TabG H P) : GxR.TabG H' P := by
  obtain ⟨ps, e, t⟩ := h
  rcases k.kept P _ e n with q | ⟨ps', more, e', q, t'⟩
  · exact ⟨ps, q, t⟩
  · cases e'
    exact ⟨_, q, t' t⟩
theorem tab_upd {H : Hp} {a P : Addr} {o o' : HO} (h : GxR.TabG H P) (e : H a = some o) (n : ∀ ps, o ≠ .tbl ps) : GxR.TabG (upd H a o') P := by
  obtain ⟨ps, e2, t⟩ := h
  exact ⟨ps, by rw [upd_ne (fun z => by rw [z, e] at e2; exact n ps (Option.some.inj e2))]; exact e2, t⟩
theorem tab_new {H : Hp} {a P : Addr} {o' : HO} (h : GxR.TabG H P) (e : H a = none) : GxR.TabG (upd H a o') P := by
  obtain ⟨ps, e2, t⟩ := h
  exact ⟨ps, by rw [upd_ne (fun z => by rw [z, e] at e2; cases e2)]; exact e2, t⟩
theorem Keep.at {B : Addr → Prop} {H H' : Hp} {a : Addr} {o : HO} (k : Keep B H H') (e : H a = some o) (n : ¬ B a) (nt : ∀ ps, o ≠ .tbl ps) : H' a = some o := by
  rcases k.kept a o e n with h | ⟨ps, _, e', _⟩
  · exact h
  · exact absurd e' (nt ps)
section
variable {K : PySem.W.Frag} {H H' H1 H2 : Hp} {σ σ' : S} {σv : L2.St}
theorem SRel.at_lst (r : SRel K H σ σv) {i : Nat} {t : Tag} {a : Addr} (h : At σ σv i t a) : ∃ vs ds, H a = some (.lst vs) ∧ σ[i]? = some (some (.l t ds)) ∧ FzAll K H ds vs := by
  obtain ⟨⟨ds, e⟩, ev⟩ := h
  obtain ⟨v, e1, b, vs, e2, h1, h2⟩ := r.val i _ e
  rw [ev] at e1
  have e3 : V.ref a = v := by injection e1 with q; injection q
  rw [← e3] at e2
  injection e2 with e2
  subst e2
  exact ⟨vs, ds, h1, e, h2⟩
theorem SRel.imm (r : SRel K H σ σv) (k : Keep (OwnM σ σv) H H') : Imm H H' := by
  have no : ∀ b o, H b = some o → (∀ vs, o ≠ .lst vs) → ¬ OwnM σ σv b := fun b o e n ⟨i, t, _, h⟩ => by
    obtain ⟨vs, _, q, _⟩ := r.at_lst h
    rw [e] at q
    exact n vs (Option.some.inj q)
  refine ⟨fun b xs e => ?_, fun b o u e => ?_, fun b φ e => ?_⟩
  · exact k.at e (no b _ e fun _ z => by cases z) fun _ z => by cases z
  · exact k.at e (no b _ e fun _ z => by cases z) fun _ z => by cases z
  · exact k.at e (no b _ e fun _ z => by cases z) fun _ z => by cases z
end

/-! ### what an expression may do to the slots: an own list may change, or be given away for good -/
def SubC : Option (Option C) → Option (Option C) → Prop
  | some (some (.l .own _)), c' => (∃ ds', c' = some (some (.l .own ds'))) ∨ ∃ x, c' = some (some (.d x))
  | some (some (.l .par _)), c' => ∃ ds', c' = some (some (.l .par ds'))
  | c, c' => c' = c
def Sub (σ σ' : S) : Prop := ∀ i : Nat, SubC σ[i]? σ'[i]?
theorem SubC.refl : ∀ c, SubC c c
  | some (some (.l .own ds)) => .inl ⟨ds, rfl⟩
  | some (some (.l .par ds)) => ⟨ds, rfl⟩
  | some (some (.l .lck ds)) => rfl
  | some (some (.d x)) => rfl
  | some none => rfl
  | none => rfl
theorem SubC.trans : ∀ {a b c}, SubC a b → SubC b c → SubC a c
  | some (some (.l .own ds)), _, _, h, g => by
    rcases h with ⟨ds', rfl⟩ | ⟨x, rfl⟩
    · exact g
    · exact .inr ⟨x, g⟩
  | some (some (.l .par ds)), _, _, h, g => by
    obtain ⟨ds', rfl⟩ := h
    exact g
  | some (some (.l .lck ds)), _, _, h, g => by
    rw [show _ = some (some (C.l .lck ds)) from h] at g
    exact g
  | some (some (.d x)), _, _, h, g => by
    rw [show _ = some (some (C.d x)) from h] at g
    exact g
  | some none, _, _, h, g => by
    rw [show _ = some none from h] at g
    exact g
  | none, _, _, h, g => by
    rw [show _ = none from h] at g
    exact g
theorem Sub.refl (σ : S) : Sub σ σ := fun _ => SubC.refl _
theorem Sub.trans {σ σ1 σ2 : S} (a : Sub σ σ1) (b : Sub σ1 σ2) : Sub σ σ2 := fun i => (a i).trans (b i)
section
variable {K : PySem.W.Frag} {H H' H1 H2 : Hp} {σ σ' : S} {σv : L2.St}
theorem SubC.mut : ∀ {c c'}, SubC c c' → ∀ {t ds'}, c' = some (some (.l t ds')) → ∃ ds, c = some (some (.l t ds))
  | some (some (.l .own ds)), _, h, t, ds', e => by
    rcases h with ⟨es, rfl⟩ | ⟨x, rfl⟩
    · cases e; exact ⟨ds, rfl⟩
    · cases e
  | some (some (.l .par ds)), _, h, t, ds', e => by
    obtain ⟨es, rfl⟩ := h
    cases e; exact ⟨ds, rfl⟩
  | some (some (.l .lck ds)), _, h, t, ds', e => by
    rw [show _ = some (some (C.l .lck ds)) from h] at e
    cases e; exact ⟨ds, rfl⟩
  | some (some (.d x)), _, h, t, ds', e => by
    rw [show _ = some (some (C.d x)) from h] at e; cases e
  | some none, _, h, t, ds', e => by
    rw [show _ = some none from h] at e; cases e
  | none, _, h, t, ds', e => by
    rw [show _ = none from h] at e; cases e
theorem SubC.held : ∀ {c c'}, SubC c c' → ∀ {k : C}, c = Option.some (Option.some k) → ∃ k', c' = Option.some (Option.some k')
  | some (some (.l .own ds)), _, h, k, e => by
    rcases h with ⟨es, rfl⟩ | ⟨x, rfl⟩
    · exact ⟨_, rfl⟩
    · exact ⟨_, rfl⟩
  | some (some (.l .par ds)), _, h, k, e => by
    obtain ⟨es, rfl⟩ := h
    exact ⟨_, rfl⟩
  | some (some (.l .lck ds)), _, h, k, e => ⟨_, h⟩
  | some (some (.d x)), _, h, k, e => ⟨_, h⟩
  | some none, _, h, k, e => by cases e
  | none, _, h, k, e => by cases e
theorem Sub.at {i : Nat} {t : Tag} {a : Addr} (s : Sub σ σ') (h : At σ' σv i t a) : At σ σv i t a := by
  obtain ⟨⟨ds', e⟩, ev⟩ := h
  exact ⟨(s i).mut e, ev⟩
theorem Sub.ownM {a : Addr} (s : Sub σ σ') (h : OwnM σ' σv a) : OwnM σ σv a := by
  obtain ⟨i, t, n, h⟩ := h
  exact ⟨i, t, n, s.at h⟩
end
end FL

set_option Elab.async false
set_option linter.all false
set_option maxRecDepth 100000
set_option maxHeartbeats 1000000
/-! FL: expressions. -/
namespace FL
open PySem PySem.Spec PyProof.Rows L2

theorem pe_weak {X : Cx} {e : Expr} {t t' : TE} (h : PE X e t) (w : ∀ σv H Q, t' σv H Q → t σv H Q) : PE X e t' := ⟨fun pins s σ H Q I q => h.run pins s σ H Q I (w σ H Q q)⟩
theorem pt_weak {X : Cx} {e : Expr} {t t' : TT} (h : PT X e t) (w : ∀ σv H Q, t' σv H Q → t σv H Q) : PT X e t' := ⟨fun pins s σ H Q I q => h.run pins s σ H Q I (w σ H Q q)⟩
theorem pw_weak {X : Cx} {e : Expr} {t t' : TT} (h : PW X e t) (w : ∀ σv H Q, t' σv H Q → t σv H Q) : PW X e t' := ⟨fun wh pins s σ H Q I q => h.run wh pins s σ H Q I (w σ H Q q)⟩
theorem pa_weak {X : Cx} {es : List Expr} {t t' : TA} (h : PA X es t) (w : ∀ σv H Q, t' σv H Q → t σv H Q) : PA X es t' := ⟨fun pos pins s σ H Q I q => h.run pos pins s σ H Q I (w σ H Q q)⟩
theorem ps_weak {X : Cx} {e : Stmt} {t t' : TS} (h : PS X e t) (w : ∀ D σv H, t' D σv H → t D σv H) : PS X e t' := ⟨fun pins s σ H D I q => h.run pins s σ H D I (w D σ H q)⟩
theorem pss_weak {X : Cx} {e : List Stmt} {t t' : TS} (h : PSs X e t) (w : ∀ D σv H, t' D σv H → t D σv H) : PSs X e t' := ⟨fun pins s σ H D I q => h.run pins s σ H D I (w D σ H q)⟩

/-- the class of an error, by its name -/
def ECl (mg : Str → Option Value) (c : ECls) (cls : Value) : Prop := mg c = some cls ∨ (mg c = none ∧ bootBuiltins c = some cls)

/-- from a state to a later one within an expression -/
structure Step (K : PySem.W.Frag) (H : Hp) (σ : S) (σv : L2.St) (H' : Hp) (σ' : S) : Prop where
  keep : Keep (OwnM σ σv) H H'
  rel : SRel K H' σ' σv
  sub : Sub σ σ'
def RRel (K : PySem.W.Frag) (H H' : Hp) (σ' : S) (σv : L2.St) : R → V → Prop
  | .d x, v => Fz K H' x v
  | .own ds, v => ∃ a vs, v = .ref a ∧ H a = none ∧ H' a = some (.lst vs) ∧ FzAll K H' ds vs
  | .slot i, v => σv[i]? = some (some v) ∧ ∃ c, σ'[i]? = some (some c)
/-- what is to hold behind a step that gives an α, told by V's -/
def Post {α β : Type} (K : PySem.W.Frag) (mg : Str → Option Value) (W : WX) (Rel : Hp → Hp → S → L2.St → α → β → Prop) (H : Hp) (σ : S) (σv : L2.St) (Q : β → Hp → Prop) : Res α → Prop
  | .ok a σ' => ∀ b H', Step K H σ σv H' σ' → Rel H H' σ' σv a b → Q b H'
  | .exc c σ' => ∀ cls H', ECl mg c cls → Step K H σ σv H' σ' → W cls none σv H'
  | .bad => False
def rd (K : PySem.W.Frag) (mg : Str → Option Value) (W : WX) (E : S → Res R) : TE := fun σv H Q => ∃ σ, SRel K H σ σv ∧ Post K mg W (RRel K) H σ σv Q (E σ)
/-- a test's -/
def rdT (K : PySem.W.Frag) (mg : Str → Option Value) (W : WX) (T : S → Res Bool) : TT := fun σv H Q => ∃ σ, SRel K H σ σv ∧ Post K mg W (fun _ _ _ _ a b => a = b) H σ σv Q (T σ)
/-- data in a row, each frozen -/
def rdA (K : PySem.W.Frag) (mg : Str → Option Value) (W : WX) (T : S → Res (List D)) : TA := fun σv H Q => ∃ σ, SRel K H σ σv ∧ Post K mg W (fun _ H' _ _ ds vs => FzAll K H' ds vs) H σ σv Q (T σ)

@[simp] def Res.bind {α β : Type} : Res α → (α → S → Res β) → Res β
  | .ok a σ, f => f a σ
  | .exc c σ, _ => .exc c σ
  | .bad, _ => .bad

section
variable {K : PySem.W.Frag} {mg : Str → Option Value} {W : WX} {H H1 H2 H' : Hp} {σ σ1 σ2 σ' : S} {σv : L2.St}
theorem Step.refl (r : SRel K H σ σv) : Step K H σ σv H σ := ⟨Keep.refl _ _, r, Sub.refl _⟩
theorem Step.trans (a : Step K H σ σv H1 σ1) (b : Step K H1 σ1 σv H2 σ2) : Step K H σ σv H2 σ2 := ⟨a.keep.trans b.keep fun _ _ _ z => a.sub.ownM z, b.rel, a.sub.trans b.sub⟩
theorem CRel.mono {c : C} {v : V} (m : Imm H H') (k : ∀ t ds a, c = .l t ds → v = .ref a → ∀ vs, H a = some (.lst vs) → H' a = some (.lst vs)) (h : CRel K H c v) : CRel K H' c v := by
  cases c with
  | d x => exact Fz.mono m x h
  | l t ds =>
    obtain ⟨a, vs, e, h1, h2⟩ := h
    exact ⟨a, vs, e, k t ds a rfl e vs h1, FzAll.mono m ds h2⟩
theorem SRel.same (r : SRel K H σ σv) (s : Same H H') : SRel K H' σ σv :=
  ⟨r.len, fun i c e => by
    obtain ⟨v, e1, h⟩ := r.val i c e
    exact ⟨v, e1, CRel.mono ⟨fun b xs q => s b _ q, fun b o u q => s b _ q, fun b φ q => s b _ q⟩ (fun _ _ a _ _ vs q => s a _ q) h⟩, r.apart, fun p hp => by
    obtain ⟨ps, e, t⟩ := r.tab p hp
    exact ⟨ps, s _ _ e, t⟩⟩
theorem Step.same (r : SRel K H σ σv) (s : Same H H') : Step K H σ σv H' σ := ⟨Keep.of_same s, r.same s, Sub.refl _⟩
theorem Step.imm (r : SRel K H σ σv) (a : Step K H σ σv H1 σ1) : Imm H H1 := r.imm a.keep
theorem ownM_some (r : SRel K H σ σv) {a : Addr} (h : OwnM σ σv a) : H a ≠ none := by
  obtain ⟨i, t, _, h⟩ := h
  obtain ⟨vs, _, e, _⟩ := r.at_lst h
  rw [e]; exact fun z => by cases z
theorem RRel.later {r : R} {v : V} (s0 : SRel K H σ σv) (a : Step K H σ σv H1 σ1) (h : RRel K H H1 σ1 σv r v) (b : Step K H1 σ1 σv H2 σ2) : RRel K H H2 σ2 σv r v := by
  cases r with
  | d x => exact Fz.mono (b.imm a.rel) x h
  | own ds =>
    obtain ⟨p, vs, e, h1, h2, h3⟩ := h
    refine ⟨p, vs, e, h1, b.keep.at h2 (fun z => ?_) (fun _ z => by cases z), FzAll.mono (b.imm a.rel) ds h3⟩
    exact ownM_some s0 (a.sub.ownM z) h1
  | slot i =>
    obtain ⟨h1, c, h2⟩ := h
    exact ⟨h1, (b.sub i).held h2⟩
/-- the data that is read at a result, now -/
@[simp] def view (σ : S) : R → Option D
  | .d x => some x
  | .own ds => some (.list ds)
  | .slot i => match σ[i]? with
    | some (some (.d x)) => some x
    | some (some (.l _ ds)) => some (.list ds)
    | _ => none
theorem RRel.view {r : R} {v : V} {x : D} (s : SRel K H' σ' σv) (h : RRel K H H' σ' σv r v) (e : view σ' r = some x) : View K H' x v := by
  cases r with
  | d y =>
    cases e
    exact Fz.view h
  | own ds =>
    cases e
    obtain ⟨a, vs, e, _, h2, h3⟩ := h
    exact ⟨a, vs, e, .inl h2, h3⟩
  | slot i =>
    obtain ⟨h1, c, h2⟩ := h
    obtain ⟨v', e1, hc⟩ := s.val i c h2
    rw [h1] at e1
    have ev : v = v' := by injection e1 with q; injection q
    subst ev
    simp only [FL.view, h2] at e
    cases c with
    | d y =>
      have e' : y = x := by injection e
      subst e'
      exact Fz.view hc
    | l t ds =>
      have e' : PyData.list ds = x := by injection e
      subst e'
      obtain ⟨a, vs, e, q1, q2⟩ := hc
      exact ⟨a, vs, e, .inl q1, q2⟩
theorem Post.exc_later {α β α' β' : Type} {Rel : Hp → Hp → S → L2.St → α → β → Prop} {Rel' : Hp → Hp → S → L2.St → α' → β' → Prop} {Q : β → Hp → Prop} {Q' : β' → Hp → Prop} {c : ECls}
    (h : Post K mg W Rel H σ σv Q (.exc c σ2)) (st : Step K H σ σv H1 σ1) : Post K mg W Rel' H1 σ1 σv Q' (.exc c σ2) := fun cls H' e s => h cls H' e (st.trans s)

/-! ### new values -/
/-- what a built-in operation gives: data, or a new list -/
def NewR (K : PySem.W.Frag) (H H' : Hp) : R → V → Prop
  | .d x, v => Same H H' ∧ Fz K H' x v
  | .own ds, v => Same H H' ∧ ∃ a vs, v = .ref a ∧ H a = none ∧ H' a = some (.lst vs) ∧ FzAll K H' ds vs
  | .slot _, _ => False
theorem NewR.same {r : R} {v : V} (h : NewR K H H' r v) : Same H H' := by
  cases r with
  | d x => exact h.1
  | own ds => exact h.1
  | slot i => exact False.elim h
theorem NewR.rrel {r : R} {v : V} (a : Step K H σ σv H1 σ1) (h : NewR K H1 H2 r v) : RRel K H H2 σ1 σv r v := by
  cases r with
  | d x => exact h.2
  | own ds =>
    obtain ⟨_, p, vs, e, h1, h2, h3⟩ := h
    exact ⟨p, vs, e, a.keep.gone p h1, h2, h3⟩
  | slot i => exact False.elim h
end

/-! ### expressions -/
@[simp] def eName (i : Nat) (σ : S) : Res R := match σ[i]? with
  | some (some (.d x)) => .ok (.d x) σ
  | some (some (.l _ _)) => .ok (.slot i) σ
  | _ => .bad
@[simp] def eC (x : D) (σ : S) : Res R := .ok (.d x) σ
/-- a two-place operation on what is read -/
@[simp] def eOp2 (g : D → D → Option R) (Ea Eb : S → Res R) (σ : S) : Res R := (Ea σ).bind fun ra σ1 => (Eb σ1).bind fun rb σ2 => match view σ2 ra, view σ2 rb with
  | some a, some b => (match g a b with
    | some r => .ok r σ2
    | none => .bad)
  | _, _ => .bad
@[simp] def eOp1 (g : D → Option R) (Ea : S → Res R) (σ : S) : Res R := (Ea σ).bind fun ra σ1 => match view σ1 ra with
  | some a => (match g a with
    | some r => .ok r σ1
    | none => .bad)
  | none => .bad
/-- g tells what the rule r asks -/
def Op2 (K : PySem.W.Frag) (r : R2) (g : D → D → Option R) : Prop := ∀ (a b : D) (va vb : V) (H : Hp) (Q : VK) (res : R), View K H a va → View K H b vb → g a b = some res → (∀ v' H', NewR K H H' res v' → Q v' H') → r va vb H Q
def Op1 (K : PySem.W.Frag) (r : V → Hp → VK → Prop) (g : D → Option R) : Prop := ∀ (a : D) (va : V) (H : Hp) (Q : VK) (res : R), View K H a va → g a = some res → (∀ v' H', NewR K H H' res v' → Q v' H') → r va H Q

section
variable {X : Cx} {W : WX} {a b c e : Expr} {Ea Eb Ec E : S → Res R} {pos : Pos}
theorem de_name {i : Nat} {x : Str} (hN : X.N[i]? = some x := by rfl) (hv : Vis X.env.scope x := by first | exact Or.inl rfl | exact Or.inr (Or.inl rfl) | exact Or.inr (Or.inr rfl)) (hd : (x == ("__debug__" : Str)) = false := by decide)
    (hcd : (x == ("__classdict__" : Str)) = false := by decide) : PE X (.Name x pos) (rd X.K X.mg W (eName i)) := by
  refine pe_weak (pe_var hN hv hd hcd) fun σv H Q h => ?_
  obtain ⟨σ, s, h⟩ := h
  unfold eName at h
  split at h
  · rename_i x e
    obtain ⟨v, e1, hc⟩ := s.val i _ e
    exact ⟨v, e1, h v H (Step.refl s) hc⟩
  · rename_i t ds e
    obtain ⟨v, e1, hc⟩ := s.val i _ e
    exact ⟨v, e1, h v H (Step.refl s) ⟨e1, _, e⟩⟩
  · exact False.elim h
theorem de_of_const {t : TE} {v : V} {x : D} (h : PE X e t) (ht : ∀ σv H Q, Q v H → t σv H Q) (hx : ∀ K H, Fz K H x v) : PE X e (rd X.K X.mg W (eC x)) :=
  pe_weak h fun σv H Q ⟨σ, s, q⟩ => ht σv H Q (q v H (Step.refl s) (hx _ _))
theorem de_int {i : Int} {j : Nat} : PE X (.Constant (.int i) j pos) (rd X.K X.mg W (eC (.int i))) := de_of_const pe_int (fun _ _ _ q => q) fun _ _ => rfl
theorem de_bl {i : Bool} {j : Nat} : PE X (.Constant (.bool i) j pos) (rd X.K X.mg W (eC (.bool i))) := de_of_const pe_bl (fun _ _ _ q => q) fun _ _ => rfl
theorem de_non {j : Nat} : PE X (.Constant .none j pos) (rd X.K X.mg W (eC .none)) := de_of_const pe_non (fun _ _ _ q => q) fun _ _ => rfl
theorem de_str {i : Str} {j : Nat} : PE X (.Constant (.str i) j pos) (rd X.K X.mg W (eC (.str i))) := de_of_const pe_str (fun _ _ _ q => q) fun _ _ => rfl

theorem post_op2 {K : PySem.W.Frag} {mg : Str → Option Value} {r : R2} {g : D → D → Option R} (hg : Op2 K r g) {σv : L2.St} {H : Hp} {Q : VK} (h : rd K mg W (eOp2 g Ea Eb) σv H Q) : tOp r (rd K mg W Ea) (rd K mg W Eb) σv H Q := by
  obtain ⟨σ, s, h⟩ := h
  refine ⟨σ, s, ?_⟩
  unfold eOp2 at h
  cases ea : Ea σ with
  | bad => rw [ea] at h; exact False.elim h
  | exc c σ1 => rw [ea] at h; exact h
  | ok ra σ1 =>
    rw [ea] at h
    intro va H1 st1 rr1
    refine ⟨σ1, st1.rel, ?_⟩
    have h : Post K mg W (RRel K) H σ σv Q ((Eb σ1).bind _) := h
    cases eb : Eb σ1 with
    | bad => rw [eb] at h; exact False.elim h
    | exc c σ2 => rw [eb] at h; exact Post.exc_later h st1
    | ok rb σ2 =>
      rw [eb] at h
      intro vb H2 st2 rr2
      have st := st1.trans st2
      have rr1 := rr1.later s st1 st2
      have h : Post K mg W (RRel K) H σ σv Q (match view σ2 ra, view σ2 rb with
        | some a, some b => (match g a b with
          | some r => .ok r σ2
          | none => .bad)
        | _, _ => .bad) := h
      split at h
      · rename_i x y ex ey
        split at h
        · rename_i res eg
          refine hg x y va vb H2 Q res (rr1.view st.rel ex) (rr2.view st.rel ey) eg fun v' H' nr => ?_
          exact h v' H' (st.trans (Step.same st.rel nr.same)) (NewR.rrel st nr)
        · exact False.elim h
      · exact False.elim h
theorem post_op1 {K : PySem.W.Frag} {mg : Str → Option Value} {r : V → Hp → VK → Prop} {g : D → Option R} (hg : Op1 K r g) {σv : L2.St} {H : Hp} {Q : VK} (h : rd K mg W (eOp1 g Ea) σv H Q) : rd K mg W Ea σv H fun x H1 => r x H1 Q := by
  obtain ⟨σ, s, h⟩ := h
  refine ⟨σ, s, ?_⟩
  unfold eOp1 at h
  cases ea : Ea σ with
  | bad => rw [ea] at h; exact False.elim h
  | exc c σ1 => rw [ea] at h; exact h
  | ok ra σ1 =>
    rw [ea] at h
    intro va H1 st1 rr1
    simp only [Res.bind] at h
    split at h
    · rename_i x ex
      split at h
      · rename_i res eg
        refine hg x va H1 Q res (rr1.view st1.rel ex) eg fun v' H' nr => ?_
        exact h v' H' (st1.trans (Step.same st1.rel nr.same)) (NewR.rrel st1 nr)
      · exact False.elim h
    · exact False.elim h
theorem de_bin {op : Operator} {r : R2} {g : D → D → Option R} (ho : OpR X (binaryOp op) r) (hg : Op2 X.K r g) (ha : PE X a (rd X.K X.mg W Ea)) (hb : PE X b (rd X.K X.mg W Eb)) : PE X (.BinOp a op b pos) (rd X.K X.mg W (eOp2 g Ea Eb)) :=
  pe_weak (pe_op ho ha hb) fun _ _ _ h => post_op2 hg h
theorem de_cmp {op : CmpOp} {r : R2} {g : D → D → Option R} (ho : OpR X (compareOp op) r) (hg : Op2 X.K r g) (ha : PE X a (rd X.K X.mg W Ea)) (hb : PE X b (rd X.K X.mg W Eb)) (hm : behindInMarks op b = false := by first | exact nomark _ | with_unfolding_all rfl) :
    PE X (.Compare a [op] [b] pos) (rd X.K X.mg W (eOp2 g Ea Eb)) := pe_weak (pe_cmpR ho ha hb hm) fun _ _ _ h => post_op2 hg h
theorem de_un {op : UnaryOp} {r : V → Hp → VK → Prop} {g : D → Option R} (ho : UnR X (unaryOp op) r) (hg : Op1 X.K r g) (ha : PE X a (rd X.K X.mg W Ea)) : PE X (.UnaryOp op a pos) (rd X.K X.mg W (eOp1 g Ea)) :=
  pe_weak (pe_un ho ha) fun _ _ _ h => post_op1 hg h

/-! ### tests -/
/-- the truth of what is read -/
@[simp] def truth : D → Option Bool
  | .none => some false
  | .bool b => some b
  | .int i => some (i != 0)
  | .list ds => some (!ds.isEmpty)
  | .tuple ds => some (!ds.isEmpty)
  | .str x => if x.length ≤ sizeLine then some ((x.length : Int) != 0) else none
  | .dict _ => none
@[simp] def isBool : D → Option Bool
  | .bool b => some b
  | _ => none
@[simp] def tTru (p : D → Option Bool) (Ea : S → Res R) (σ : S) : Res Bool := (Ea σ).bind fun ra σ1 => match view σ1 ra with
  | some a => (match p a with
    | some r => .ok r σ1
    | none => .bad)
  | none => .bad
theorem isEmpty_len {α β : Type} {l : List α} {m : List β} (h : l.length = m.length) : l.isEmpty = m.isEmpty := by
  cases l <;> cases m <;> simp_all
theorem truth_ok {K : PySem.W.Frag} {H : Hp} {d : D} {v : V} {k : Bool} (h : View K H d v) (e : truth d = some k) : TruV K v H k := by
  cases d with
  | none => rw [show v = .non from h]; injection e with e; exact e.symm
  | bool b => rw [show v = .bl b from h]; injection e with e; exact e.symm
  | int i => rw [show v = .int i from h]; injection e with e; exact e.symm
  | str x =>
    rw [show v = .str x from h]
    simp only [truth] at e
    split at e
    · injection e with e; exact ⟨by assumption, e.symm⟩
    · cases e
  | list ds =>
    obtain ⟨a, xs, rfl, h1, h2⟩ := h
    injection e with e
    exact .inl ⟨xs, .inl h1, by rw [← e, isEmpty_len h2.length]⟩
  | tuple ds =>
    obtain ⟨a, xs, rfl, h1, h2⟩ := h
    injection e with e
    exact .inr (.inl ⟨xs, h1, by rw [← e, isEmpty_len h2.length]⟩)
  | dict _ => cases e
theorem post_tru {K : PySem.W.Frag} {mg : Str → Option Value} {p : D → Option Bool} {r : V → Hp → (Bool → Hp → Prop) → Prop} (hp : ∀ d v H k Q, View K H d v → p d = some k → Q k H → r v H Q) {σv : L2.St} {H : Hp} {Q : Bool → Hp → Prop}
    (h : rdT K mg W (tTru p Ea) σv H Q) : rd K mg W Ea σv H fun x H1 => r x H1 Q := by
  obtain ⟨σ, s, h⟩ := h
  refine ⟨σ, s, ?_⟩
  unfold tTru at h
  cases ea : Ea σ with
  | bad => rw [ea] at h; exact False.elim h
  | exc c σ1 => rw [ea] at h; exact h
  | ok ra σ1 =>
    rw [ea] at h
    intro va H1 st1 rr1
    have h : Post K mg W (fun _ _ _ _ a b => a = b) H σ σv Q (match view σ1 ra with
      | some a => (match p a with
        | some r => .ok r σ1
        | none => .bad)
      | none => .bad) := h
    split at h
    · rename_i x ex
      split at h
      · rename_i res eg
        exact hp x va H1 res Q (rr1.view st1.rel ex) eg (h res H1 st1 rfl)
      · exact False.elim h
    · exact False.elim h
/-- a test by the truth of a value (not for comparisons, and, or, not) -/
theorem dt_tru (ha : PE X a (rd X.K X.mg W Ea)) (he : ∀ whole, isTrue a X.env whole = (do let v ← whole; standAt a.pos; holding [v] (truthy v)) := by intro _; rfl) : PT X a (rdT X.K X.mg W (tTru truth Ea)) :=
  pt_weak (pt_truth ha he) fun σv H Q h => post_tru (r := fun x H' Q => ∃ k, TruV X.K x H' k ∧ Q k H') (fun d v H k Q hv e q => ⟨k, truth_ok hv e, q⟩) h
theorem isBool_ok {K : PySem.W.Frag} {H : Hp} {d : D} {v : V} {k : Bool} (h : View K H d v) (e : isBool d = some k) : v = .bl k := by
  cases d <;> first | (cases e; done) | skip
  injection e with e
  subst e
  exact h
theorem dt_cmp {op : CmpOp} {r : R2} {g : D → D → Option R} (ho : OpR X (compareOp op) r) (hg : Op2 X.K r g) (ha : PE X a (rd X.K X.mg W Ea)) (hb : PE X b (rd X.K X.mg W Eb)) (hm : behindInMarks op b = false := by first | exact nomark _ | with_unfolding_all rfl) :
    PT X (.Compare a [op] [b] pos) (rdT X.K X.mg W (tTru isBool (eOp2 g Ea Eb))) :=
  pt_weak (pt_cmpR ho ha hb hm) fun σv H Q h => post_op2 hg (post_tru (r := fun x H' Q => ∃ k, x = .bl k ∧ Q k H') (fun d v H k Q hv e q => ⟨k, isBool_ok hv e, q⟩) h)

@[simp] def tNotF (T : S → Res Bool) (σ : S) : Res Bool := (T σ).bind fun b σ1 => .ok (!b) σ1
@[simp] def tAndF (T U : S → Res Bool) (σ : S) : Res Bool := (T σ).bind fun b σ1 => if b = true then U σ1 else .ok false σ1
@[simp] def tOrF (T U : S → Res Bool) (σ : S) : Res Bool := (T σ).bind fun b σ1 => if b = true then .ok true σ1 else U σ1
variable {T U : S → Res Bool}
theorem dt_not (ha : PT X a (rdT X.K X.mg W T)) : PT X (.UnaryOp .Not a pos) (rdT X.K X.mg W (tNotF T)) :=
  pt_weak (pt_not ha) fun σv H Q ⟨σ, s, h⟩ => by
    refine ⟨σ, s, ?_⟩
    unfold tNotF at h
    cases ea : T σ with
    | bad => rw [ea] at h; exact False.elim h
    | exc c σ1 => rw [ea] at h; exact h
    | ok b σ1 =>
      rw [ea] at h
      intro k H1 st e
      subst e
      exact h _ H1 st rfl
variable {rest : List Expr}
theorem Post.later {α β : Type} {K : PySem.W.Frag} {mg : Str → Option Value} {H H1 : Hp} {σ σ1 : S} {σv : L2.St} {Q : β → Hp → Prop} {x : Res α} {Rel : Hp → Hp → S → L2.St → α → β → Prop} (st : Step K H σ σv H1 σ1)
    (hr : ∀ H2 σ2 a b, Step K H1 σ1 σv H2 σ2 → Rel H1 H2 σ2 σv a b → Rel H H2 σ2 σv a b) (h : Post K mg W Rel H σ σv Q x) : Post K mg W Rel H1 σ1 σv Q x := by
  cases x with
  | bad => exact h
  | exc c σ2 => exact fun cls H' e s => h cls H' e (st.trans s)
  | ok a σ2 => exact fun b H' s r => h b H' (st.trans s) (hr _ _ _ _ s r)
theorem RRel.back {K : PySem.W.Frag} {H H1 H2 : Hp} {σ σ1 σ2 : S} {σv : L2.St} {r : R} {v : V} (st : Step K H σ σv H1 σ1) (h : RRel K H1 H2 σ2 σv r v) : RRel K H H2 σ2 σv r v := by
  cases r with
  | d x => exact h
  | own ds =>
    obtain ⟨p, vs, e, h1, h2⟩ := h
    exact ⟨p, vs, e, st.keep.gone p h1, h2⟩
  | slot i => exact h
theorem dw_one_and (ha : PT X a (rdT X.K X.mg W T)) : PW X (.BoolOp .And [a] pos) (rdT X.K X.mg W T) := pw_and1 ha
theorem dw_one_or (ha : PT X a (rdT X.K X.mg W T)) : PW X (.BoolOp .Or [a] pos) (rdT X.K X.mg W T) := pw_or1 ha
theorem dw_and (ha : PT X a (rdT X.K X.mg W T)) (hb : PW X (.BoolOp .And (b :: rest) pos) (rdT X.K X.mg W U)) : PW X (.BoolOp .And (a :: b :: rest) pos) (rdT X.K X.mg W (tAndF T U)) :=
  pw_weak (pw_and ha hb) fun σv H Q ⟨σ, s, h⟩ => by
    refine ⟨σ, s, ?_⟩
    unfold tAndF at h
    cases ea : T σ with
    | bad => rw [ea] at h; exact False.elim h
    | exc c σ1 => rw [ea] at h; exact h
    | ok k σ1 =>
      rw [ea] at h
      intro k' H1 st e
      subst e
      cases k with
      | true => exact ⟨σ1, st.rel, Post.later st (fun _ _ _ _ _ r => r) h⟩
      | false => exact h _ H1 st rfl
theorem dw_or (ha : PT X a (rdT X.K X.mg W T)) (hb : PW X (.BoolOp .Or (b :: rest) pos) (rdT X.K X.mg W U)) : PW X (.BoolOp .Or (a :: b :: rest) pos) (rdT X.K X.mg W (tOrF T U)) :=
  pw_weak (pw_or ha hb) fun σv H Q ⟨σ, s, h⟩ => by
    refine ⟨σ, s, ?_⟩
    unfold tOrF at h
    cases ea : T σ with
    | bad => rw [ea] at h; exact False.elim h
    | exc c σ1 => rw [ea] at h; exact h
    | ok k σ1 =>
      rw [ea] at h
      intro k' H1 st e
      subst e
      cases k with
      | false => exact ⟨σ1, st.rel, Post.later st (fun _ _ _ _ _ r => r) h⟩
      | true => exact h _ H1 st rfl
theorem dt_pw (h : PW X e (rdT X.K X.mg W T)) : PT X e (rdT X.K X.mg W T) := h.pt
/-! and, or, not as values: of truth values -/
@[simp] def eNot (E : S → Res R) (σ : S) : Res R := (E σ).bind fun r σ1 => match view σ1 r with
  | some d => (match isBool d with
    | some b => .ok (.d (.bool (!b))) σ1
    | none => .bad)
  | none => .bad
@[simp] def eAnd (E F : S → Res R) (σ : S) : Res R := (E σ).bind fun r σ1 => match view σ1 r with
  | some d => (match isBool d with
    | some b => if b = true then F σ1 else .ok (.d (.bool false)) σ1
    | none => .bad)
  | none => .bad
@[simp] def eOr (E F : S → Res R) (σ : S) : Res R := (E σ).bind fun r σ1 => match view σ1 r with
  | some d => (match isBool d with
    | some b => if b = true then .ok (.d (.bool true)) σ1 else F σ1
    | none => .bad)
  | none => .bad
theorem de_one {op : BoolOp} (h : PE X a (rd X.K X.mg W E)) : PE X (.BoolOp op [a] pos) (rd X.K X.mg W E) := pe_one h
theorem de_not (ha : PE X a (rd X.K X.mg W E)) : PE X (.UnaryOp .Not a pos) (rd X.K X.mg W (eNot E)) :=
  pe_weak (pe_not ha) fun σv H Q ⟨σ, s, h⟩ => by
    refine ⟨σ, s, ?_⟩
    unfold eNot at h
    cases ea : E σ with
    | bad => rw [ea] at h; exact False.elim h
    | exc c σ1 => rw [ea] at h; exact h
    | ok r σ1 =>
      rw [ea] at h
      intro v H1 st rr
      simp only [Res.bind] at h
      split at h
      · rename_i d ed
        split at h
        · rename_i k ek
          exact ⟨k, isBool_ok (rr.view st.rel ed) ek, h _ H1 st rfl⟩
        · exact False.elim h
      · exact False.elim h
theorem de_and (ha : PE X a (rd X.K X.mg W E)) (hb : PE X (.BoolOp .And (b :: rest) pos) (rd X.K X.mg W Eb)) : PE X (.BoolOp .And (a :: b :: rest) pos) (rd X.K X.mg W (eAnd E Eb)) :=
  pe_weak (pe_and ha hb) fun σv H Q ⟨σ, s, h⟩ => by
    refine ⟨σ, s, ?_⟩
    unfold eAnd at h
    cases ea : E σ with
    | bad => rw [ea] at h; exact False.elim h
    | exc c σ1 => rw [ea] at h; exact h
    | ok r σ1 =>
      rw [ea] at h
      intro v H1 st rr
      simp only [Res.bind] at h
      split at h
      · rename_i d ed
        split at h
        · rename_i k ek
          refine ⟨k, isBool_ok (rr.view st.rel ed) ek, ?_⟩
          cases k with
          | true => exact ⟨σ1, st.rel, Post.later st (fun _ _ _ _ _ r => r.back st) h⟩
          | false => exact h _ H1 st rfl
        · exact False.elim h
      · exact False.elim h
theorem de_or (ha : PE X a (rd X.K X.mg W E)) (hb : PE X (.BoolOp .Or (b :: rest) pos) (rd X.K X.mg W Eb)) : PE X (.BoolOp .Or (a :: b :: rest) pos) (rd X.K X.mg W (eOr E Eb)) :=
  pe_weak (pe_or ha hb) fun σv H Q ⟨σ, s, h⟩ => by
    refine ⟨σ, s, ?_⟩
    unfold eOr at h
    cases ea : E σ with
    | bad => rw [ea] at h; exact False.elim h
    | exc c σ1 => rw [ea] at h; exact h
    | ok r σ1 =>
      rw [ea] at h
      intro v H1 st rr
      simp only [Res.bind] at h
      split at h
      · rename_i d ed
        split at h
        · rename_i k ek
          refine ⟨k, isBool_ok (rr.view st.rel ed) ek, ?_⟩
          cases k with
          | false => exact ⟨σ1, st.rel, Post.later st (fun _ _ _ _ _ r => r.back st) h⟩
          | true => exact h _ H1 st rfl
        · exact False.elim h
      · exact False.elim h
@[simp] def eIf (T : S → Res Bool) (E F : S → Res R) (σ : S) : Res R := (T σ).bind fun b σ1 => if b = true then E σ1 else F σ1
theorem de_if (hc : PT X c (rdT X.K X.mg W T)) (ha : PE X a (rd X.K X.mg W Ea)) (hb : PE X b (rd X.K X.mg W Eb)) : PE X (.IfExp c a b pos) (rd X.K X.mg W (eIf T Ea Eb)) :=
  pe_weak (pe_ifExp hc ha hb) fun σv H Q ⟨σ, s, h⟩ => by
    refine ⟨σ, s, ?_⟩
    unfold eIf at h
    cases ea : T σ with
    | bad => rw [ea] at h; exact False.elim h
    | exc c σ1 => rw [ea] at h; exact h
    | ok k σ1 =>
      rw [ea] at h
      intro k' H1 st e
      subst e
      cases k with
      | true => exact ⟨σ1, st.rel, Post.later st (fun _ _ _ _ _ r => r.back st) h⟩
      | false => exact ⟨σ1, st.rel, Post.later st (fun _ _ _ _ _ r => r.back st) h⟩
end
end FL

set_option Elab.async false
set_option linter.all false
set_option maxRecDepth 100000
set_option maxHeartbeats 1000000
/-! FL: operations on data. -/
namespace FL
open PySem PySem.Spec PyProof.Rows L2
section
variable {K : PySem.W.Frag} {H H' : Hp}
theorem Same.imm {H H' : Hp} (s : Same H H') : Imm H H' := ⟨fun b _ e => s b _ e, fun b _ _ e => s b _ e, fun b _ e => s b _ e⟩
theorem lay_of {d : D} (h : SeqAt.shaped d = true) : PyData.canLay0 d = true := (Bool.and_eq_true_iff.mp h).1
theorem same_new {H : Hp} {p : Addr} {o : HO} (h : H p = none) : Same H (upd H p o) := fun b x e => by
  rw [upd_ne (ne_of_none e h)]
  exact e
theorem new_tup {p : Addr} {ds : List D} {vs : List V} (n : H p = none) (h : FzAll K H ds vs) : NewR K H (upd H p (.tup vs)) (.d (.tuple ds)) (.ref p) :=
  ⟨same_new n, p, vs, rfl, .inl (.inl upd_same), FzAll.mono (Same.imm (same_new n)) ds h⟩
theorem new_lst {p : Addr} {ds : List D} {vs : List V} (n : H p = none) (h : FzAll K H ds vs) : NewR K H (upd H p (.lst vs)) (.own ds) (.ref p) :=
  ⟨same_new n, p, vs, rfl, n, upd_same, FzAll.mono (Same.imm (same_new n)) ds h⟩
theorem old_d {x : D} {v : V} (h : Fz K H x v) : NewR K H H (.d x) v := ⟨Same.refl H, h⟩
theorem new_int {i : Int} : NewR K H H (.d (.int i)) (.int i) := ⟨Same.refl H, rfl⟩
theorem new_bl {i : Bool} : NewR K H H (.d (.bool i)) (.bl i) := ⟨Same.refl H, rfl⟩
theorem new_str {i : Str} : NewR K H H (.d (.str i)) (.str i) := ⟨Same.refl H, rfl⟩
theorem view_int {i : Int} {v : V} (h : View K H (.int i) v) : v = .int i := h
theorem view_str {i : Str} {v : V} (h : View K H (.str i) v) : v = .str i := h
theorem view_bool {i : Bool} {v : V} (h : View K H (.bool i) v) : v = .bl i := h
theorem view_tup {ds : List D} {v : V} (h : View K H (.tuple ds) v) : ∃ a xs, v = .ref a ∧ SqT K H a xs ∧ FzAll K H ds xs := h
theorem view_lst {ds : List D} {v : V} (h : View K H (.list ds) v) : ∃ a xs, v = .ref a ∧ Rd H a (.lst xs) ∧ FzAll K H ds xs := h
end

/-! ### + -/
section
variable {X : Cx}
theorem Inv.lstR {pins : List (Addr × Obj)} {σ : L2.St} {H : Hp} {s : Shared} {l : Addr} {xs : List V} (I : Inv X pins σ H s) (h : Rd H l (.lst xs)) :
    xs.length ≤ sizeLine ∧ ∃ (its : List Value) (n : Nat), Vals xs its ∧ xs.length = its.length ∧ s.heap.get? l = some { cls := .type "list", data := .seq its.toArray n } := by
  obtain ⟨z, its, n, r, e⟩ := h.ok I.hok
  exact ⟨z, its, n, r, r.length, e⟩
def rCatL : R2 := fun x y H Q => ∃ l b xs zs, x = .ref l ∧ y = .ref b ∧ Rd H l (.lst xs) ∧ Rd H b (.lst zs) ∧ xs.length + zs.length ≤ sizeLine ∧ ∀ p, H p = none → Q (.ref p) (upd H p (.lst (xs ++ zs)))
theorem op_catL : OpR X (binaryOp .Add) rCatL := by
  intro pins s σ H x y v u Q I rx ry h
  obtain ⟨l, b, xs, zs, rfl, rfl, hH, hB, hz, q⟩ := h
  cases rx
  cases ry
  obtain ⟨z, its, n, r, hl, e⟩ := Inv.lstR I hH
  obtain ⟨z2, its2, n2, r2, hl2, e2⟩ := Inv.lstR I hB
  refine PySem.P.add_list e e2 ?_ (by rw [List.size_toArray, List.size_toArray]; omega)
  have ea : its.toArray ++ its2.toArray = (its ++ its2).toArray := by simp
  rw [ea]
  exact ⟨.ref _, _, I.lnew (t' := s.toks) (r.append r2) (by rw [List.length_append]; omega), rfl, q _ I.fresh⟩
def rAddD (K : PySem.W.Frag) : R2 := fun x y H Q => (∃ i j, x = .int i ∧ y = .int j ∧ Q (.int (i + j)) H) ∨ (∃ i j, x = .str i ∧ y = .str j ∧ i.length + j.length ≤ sizeLine ∧ Q (.str (i ++ j)) H) ∨ rCatA K x y H Q ∨ rCatL x y H Q
theorem op_addD : OpR X (binaryOp .Add) (rAddD X.K) := op_add.or (op_add_str.or (op_catA.or op_catL))
end
@[simp] def gAdd : D → D → Option R
  | .int i, .int j => some (.d (.int (i + j)))
  | .str x, .str y => if x.length + y.length ≤ sizeLine then some (.d (.str (x ++ y))) else none
  | .list xs, .list ys => if xs.length + ys.length ≤ sizeLine then some (.own (xs ++ ys)) else none
  | .tuple xs, .tuple ys => if xs.length + ys.length ≤ sizeLine then some (.d (.tuple (xs ++ ys))) else none
  | _, _ => none
theorem if_some {α : Type} {c : Prop} [Decidable c] {x y : α} (h : (if c then some x else none) = some y) : c ∧ x = y := by
  by_cases hc : c
  · rw [if_pos hc] at h; exact ⟨hc, Option.some.inj h⟩
  · rw [if_neg hc] at h; cases h
theorem gAdd_ok {K : PySem.W.Frag} : Op2 K (rAddD K) gAdd := by
  intro a b va vb H Q res ha hb e q
  unfold gAdd at e
  split at e
  · cases e
    exact .inl ⟨_, _, view_int ha, view_int hb, q _ _ new_int⟩
  · obtain ⟨hc, e⟩ := if_some e
    subst e
    exact .inr (.inl ⟨_, _, view_str ha, view_str hb, hc, q _ _ new_str⟩)
  · obtain ⟨hc, e⟩ := if_some e
    subst e
    obtain ⟨p, xs, rfl, h1, h2⟩ := view_lst ha
    obtain ⟨p', ys, rfl, h3, h4⟩ := view_lst hb
    exact .inr (.inr (.inr ⟨p, p', xs, ys, rfl, rfl, h1, h3, by rw [← h2.length, ← h4.length]; exact hc, fun r n => q _ _ (new_lst n (h2.append h4))⟩))
  · obtain ⟨hc, e⟩ := if_some e
    subst e
    obtain ⟨p, xs, rfl, h1, h2⟩ := view_tup ha
    obtain ⟨p', ys, rfl, h3, h4⟩ := view_tup hb
    refine .inr (.inr (.inl ⟨p, p', xs, ys, rfl, rfl, h1, h3, by rw [← h2.length, ← h4.length]; exact hc, fun e => ?_, fun _ e => ?_, fun _ _ r n => q _ _ (new_tup n (h2.append h4))⟩))
    · refine q _ _ (old_d ⟨p', ys, rfl, h3, ?_⟩)
      have := h2.append h4
      rw [e] at this
      exact this
    · refine q _ _ (old_d ⟨p, xs, rfl, h1, ?_⟩)
      have := h2.append h4
      rw [e, List.append_nil] at this
      exact this
  · cases e

/-! ### ints -/
/-- i * j can be reckoned: one of them is below 2^64, or both together have at most 2^26 bits -/
def mulOk (i j : Int) : Bool := decide (i.natAbs < 2 ^ 64) || decide (j.natAbs < 2 ^ 64) || decide (Builtin.Int.intBits i + Builtin.Int.intBits j ≤ 134217728)
theorem mulOk.ok {i j : Int} (h : mulOk i j = true) : IntMulOk i j := by
  unfold mulOk at h
  rw [Bool.or_eq_true, Bool.or_eq_true] at h
  rcases h with (h | h) | h
  · have := of_decide_eq_true h
    exact .of_left (intBits_le_64 (by omega) (by omega))
  · have := of_decide_eq_true h
    exact .of_right (intBits_le_64 (by omega) (by omega))
  · have := of_decide_eq_true h
    exact CMulX.ok (by unfold CMulX; omega)
@[simp] def gInt (C : Int → Int → Bool) (f : Int → Int → Int) : D → D → Option R
  | .int i, .int j => if C i j = true then some (.d (.int (f i j))) else none
  | _, _ => none
theorem gInt_ok {K : PySem.W.Frag} {C : Int → Int → Bool} {P : Int → Int → Prop} {f : Int → Int → Int} (h : ∀ i j, C i j = true → P i j) : Op2 K (rI P fun i j => .int (f i j)) (gInt C f) := by
  intro a b va vb H Q res ha hb e q
  unfold gInt at e
  split at e
  · obtain ⟨hc, e⟩ := if_some e
    subst e
    exact ⟨_, _, view_int ha, view_int hb, h _ _ hc, q _ _ new_int⟩
  · cases e
@[simp] def gI0 (f : Int → Int → Int) : D → D → Option R
  | .int i, .int j => some (.d (.int (f i j)))
  | _, _ => none
theorem gI0_ok {K : PySem.W.Frag} {f : Int → Int → Int} : Op2 K (rI0 fun i j => .int (f i j)) (gI0 f) := by
  intro a b va vb H Q res ha hb e q
  unfold gI0 at e
  split at e
  · cases e
    exact ⟨_, _, view_int ha, view_int hb, q _ _ new_int⟩
  · cases e
@[simp] def gB0 (f : Int → Int → Bool) : D → D → Option R
  | .int i, .int j => some (.d (.bool (f i j)))
  | _, _ => none
theorem gB0_ok {K : PySem.W.Frag} {f : Int → Int → Bool} : Op2 K (rI0 fun i j => .bl (f i j)) (gB0 f) := by
  intro a b va vb H Q res ha hb e q
  unfold gB0 at e
  split at e
  · cases e
    exact ⟨_, _, view_int ha, view_int hb, q _ _ new_bl⟩
  · cases e
@[simp] def posB (_ j : Int) : Bool := decide (0 < j)
def divOk (_ j : Int) : Bool := decide (0 < j) && decide (j.natAbs.log2 < 9000)
def powOk (i j : Int) : Bool := decide (0 ≤ j) && decide (j ≤ 1000000) && decide (i.natAbs < 2 ^ 64)
def shlOk (i j : Int) : Bool := decide (0 ≤ j) && decide ((Builtin.Int.intBits i : Int) + j ≤ 2 ^ 27)
@[simp] def shrOk (_ j : Int) : Bool := decide (0 ≤ j)
abbrev gSub := gI0 fun i j => i - j
abbrev gFdv := gInt divOk fun i j => i / j
abbrev gMod := gInt posB fun i j => i % j
abbrev gPow := gInt powOk fun i j => i ^ j.toNat
abbrev gShl := gInt shlOk fun i j => i * 2 ^ j.toNat
abbrev gShr := gInt shrOk fun i j => i / 2 ^ j.toNat
abbrev gXor := gI0 Builtin.bitXor
abbrev gAnd := gI0 Builtin.bitAnd
abbrev gOr := gI0 Builtin.bitOr
abbrev gLt := gB0 fun i j => decide (i < j)
abbrev gLe := gB0 fun i j => decide (i ≤ j)
abbrev gGt := gB0 fun i j => decide (j < i)
abbrev gGe := gB0 fun i j => decide (j ≤ i)
section
variable {X : Cx} {W : WX} {a b c e : Expr} {Ea Eb Ec E : S → Res R} {pos : Pos}
abbrev DE (X : Cx) (W : WX) (e : Expr) (E : S → Res R) : Prop := PE X e (rd X.K X.mg W E)
theorem de_add (ha : DE X W a Ea) (hb : DE X W b Eb) : DE X W (.BinOp a .Add b pos) (eOp2 gAdd Ea Eb) := de_bin op_addD gAdd_ok ha hb
theorem de_sub (ha : DE X W a Ea) (hb : DE X W b Eb) : DE X W (.BinOp a .Sub b pos) (eOp2 gSub Ea Eb) := de_bin op_sub gI0_ok ha hb
theorem de_fdv (ha : DE X W a Ea) (hb : DE X W b Eb) : DE X W (.BinOp a .FloorDiv b pos) (eOp2 gFdv Ea Eb) :=
  de_bin op_fdivW (gInt_ok fun i j h => by rw [divOk, Bool.and_eq_true] at h; exact ⟨of_decide_eq_true h.1, of_decide_eq_true h.2⟩) ha hb
theorem de_mod (ha : DE X W a Ea) (hb : DE X W b Eb) : DE X W (.BinOp a .Mod b pos) (eOp2 gMod Ea Eb) := de_bin op_mod (gInt_ok fun i j h => of_decide_eq_true h) ha hb
theorem de_pow (ha : DE X W a Ea) (hb : DE X W b Eb) : DE X W (.BinOp a .Pow b pos) (eOp2 gPow Ea Eb) :=
  de_bin op_pow (gInt_ok fun i j h => by rw [powOk, Bool.and_eq_true, Bool.and_eq_true] at h; exact ⟨of_decide_eq_true h.1.1, of_decide_eq_true h.1.2, of_decide_eq_true h.2⟩) ha hb
theorem de_shl (ha : DE X W a Ea) (hb : DE X W b Eb) : DE X W (.BinOp a .LShift b pos) (eOp2 gShl Ea Eb) :=
  de_bin op_shlW (gInt_ok fun i j h => by rw [shlOk, Bool.and_eq_true] at h; exact ⟨of_decide_eq_true h.1, of_decide_eq_true h.2⟩) ha hb
theorem de_shr (ha : DE X W a Ea) (hb : DE X W b Eb) : DE X W (.BinOp a .RShift b pos) (eOp2 gShr Ea Eb) := de_bin op_shr (gInt_ok fun i j h => of_decide_eq_true h) ha hb
theorem de_xor (ha : DE X W a Ea) (hb : DE X W b Eb) : DE X W (.BinOp a .BitXor b pos) (eOp2 gXor Ea Eb) := de_bin op_xor gI0_ok ha hb
theorem de_band (ha : DE X W a Ea) (hb : DE X W b Eb) : DE X W (.BinOp a .BitAnd b pos) (eOp2 gAnd Ea Eb) := de_bin op_and gI0_ok ha hb
theorem de_bor (ha : DE X W a Ea) (hb : DE X W b Eb) : DE X W (.BinOp a .BitOr b pos) (eOp2 gOr Ea Eb) := de_bin op_or gI0_ok ha hb
end

/-! ### * -/
section
variable {X : Cx}
theorem op_mulI : OpR X (binaryOp .Mult) (rI IntMulOk fun i j => .int (i * j)) := opI fun _ _ _ _ _ _ _ hc q => mul_int q hc
theorem iop_mulI : OpR X (inplaceOp .Mult) (rI IntMulOk fun i j => .int (i * j)) := opI fun _ _ _ _ _ _ _ hc q => imul_int q hc
def rRepL : R2 := fun x y H Q => ∃ l k xs, x = .ref l ∧ y = .int k ∧ Rd H l (.lst xs) ∧ -(2 ^ 63) ≤ k ∧ k < 2 ^ 63 ∧ xs.length * k.toNat ≤ sizeLine ∧
  ∀ p, H p = none → Q (.ref p) (upd H p (.lst (List.replicate k.toNat xs).flatten))
theorem op_repL : OpR X (binaryOp .Mult) rRepL := by
  intro pins s σ H x y v u Q I rx ry h
  obtain ⟨l, k, xs, rfl, rfl, hH, h1, h2, hz, q⟩ := h
  cases rx
  obtain ⟨t, rfl⟩ := ry
  obtain ⟨z, its, n, r, hl, e⟩ := Inv.lstR I hH
  have hlen : its.toArray.size * k.toNat ≤ sizeLine := by rw [List.size_toArray, ← hl]; exact hz
  have hcap : ¬ its.toArray.size * k.toNat > (2 ^ 63 - 1) / 8 := by
    have : (sizeLine : Nat) ≤ (2 ^ 63 - 1) / 8 := by decide
    omega
  have hfit : ¬ (!Builtin.List.listFitsIndex k) = true := by
    rw [fitsIndex_both h1 h2]
    exact Bool.false_ne_true
  have hlong : ¬ Builtin.List.listTooLong (its.toArray.size * k.toNat) = true := by
    rw [notLongL hlen]
    exact Bool.false_ne_true
  have hnew : List.foldl (fun x1 x2 => x1 ++ x2) #[] (List.replicate (if its.toArray.isEmpty = true then 0 else k.toNat) its.toArray) = (List.replicate k.toNat its).flatten.toArray := by
    have f0 : ∀ m : Nat, List.foldl (fun x1 x2 => x1 ++ x2) #[] (List.replicate m its.toArray) = (List.replicate m its).flatten.toArray := fun m => by
      have := foldl_rep its m []
      rw [List.nil_append] at this
      exact this
    rw [f0]
    cases its with
    | nil => simp
    | cons a r' => rw [if_neg (by simp)]
  refine wpAny_binaryOp_repeat_ref (T := "list") (U := "int") (by decide) ⟨_, e, rfl⟩ (fun s' => typeIs_int s' k t) noFill_list_mul F.fills_int_mul F.slot_int_rmul repeat_list F.slot_int_index.lookup
    (call_meets F.slot_int_rmul (typeIs_int s k t) F.entry_int_rmul (F.args_int_rmul_2 _ _) (int___rmul___int_list k t l its.toArray n)
      ⟨e, rfl, ⟨_, e, rfl⟩, call_meets F.slot_list_mul ⟨_, e, rfl⟩ F.entry_list_mul (F.args_list_mul_2 _ _) (AutoListH.list___mul___list_int_3 l its.toArray n k t hfit hcap hlong) ⟨e, ?_⟩⟩)
  rw [hnew]
  exact ⟨.ref _, _, I.lnew (t' := s.toks) (r.rep k.toNat) (by rw [PyProof.Rows.lm_len_rep_flat, Nat.mul_comm]; exact hz), rfl, q _ I.fresh⟩
def rMulD (K : PySem.W.Frag) : R2 := fun x y H Q => (∃ i j, x = .int i ∧ y = .int j ∧ IntMulOk i j ∧ Q (.int (i * j)) H) ∨ rRepL x y H Q ∨ rRepT K x y H Q
theorem op_mulD : OpR X (binaryOp .Mult) (rMulD X.K) := op_mulI.or (op_repL.or op_repT)
end
@[simp] def gMul : D → D → Option R
  | .int i, .int j => if mulOk i j = true then some (.d (.int (i * j))) else none
  | .list xs, .int k => if -(2 ^ 63) ≤ k ∧ k < 2 ^ 63 ∧ xs.length * k.toNat ≤ sizeLine then some (.own (List.replicate k.toNat xs).flatten) else none
  | .tuple xs, .int k => if 1 ≤ xs.length ∧ xs.length ≤ 1000 ∧ 2 ≤ k ∧ k ≤ 1000 then some (.d (.tuple (List.replicate k.toNat xs).flatten)) else none
  | _, _ => none
theorem FzAll.rep {K : PySem.W.Frag} {H : Hp} {ds : List D} {vs : List V} (h : FzAll K H ds vs) : ∀ n : Nat, FzAll K H (List.replicate n ds).flatten (List.replicate n vs).flatten
  | 0 => FzAll.nil
  | n + 1 => by
    rw [List.replicate_succ, List.replicate_succ, List.flatten_cons, List.flatten_cons]
    exact h.append (FzAll.rep h n)
theorem gMul_ok {K : PySem.W.Frag} : Op2 K (rMulD K) gMul := by
  intro a b va vb H Q res ha hb e q
  unfold gMul at e
  split at e
  · obtain ⟨hc, e⟩ := if_some e
    subst e
    exact .inl ⟨_, _, view_int ha, view_int hb, mulOk.ok hc, q _ _ new_int⟩
  · obtain ⟨⟨h0, h1, hc⟩, e⟩ := if_some e
    subst e
    obtain ⟨p, xs, rfl, h3, h2⟩ := view_lst ha
    exact .inr (.inl ⟨p, _, xs, rfl, view_int hb, h3, h0, h1, by rw [← h2.length]; exact hc, fun r n => q _ _ (new_lst n (h2.rep _))⟩)
  · obtain ⟨⟨h0, h1, h4, h5⟩, e⟩ := if_some e
    subst e
    obtain ⟨p, xs, rfl, h3, h2⟩ := view_tup ha
    exact .inr (.inr ⟨p, _, xs, rfl, view_int hb, h3, fun z => by rw [z] at h2; have := h2.length; simp at this; rw [this] at h0; simp at h0, h4, h5, by rw [← h2.length]; exact h1, fun r n => q _ _ (new_tup n (h2.rep _))⟩)
  · cases e

/-! ### ==, in, is -/
section
variable {X : Cx}
def rInT (K : PySem.W.Frag) : R2 := fun x y H Q => ∃ d ds, Dp K H x d ∧ Dp K H y (.tuple ds) ∧ SeqAt.shaped d = true ∧ SeqAt.shaped (.tuple ds) = true ∧ Q (.bl (ds.any fun z => PyData.eqv z d)) H
def rNotInT (K : PySem.W.Frag) : R2 := fun x y H Q => ∃ d ds, Dp K H x d ∧ Dp K H y (.tuple ds) ∧ SeqAt.shaped d = true ∧ SeqAt.shaped (.tuple ds) = true ∧ Q (.bl (!ds.any fun z => PyData.eqv z d)) H
theorem op_inT (hu : X.A.units + 65 < cLine) : OpR X (compareOp .In) (rInT X.K) := by
  intro pins s σ H x y v u Q I rx ry h
  obtain ⟨d, ds, hd, he, sd, se, q⟩ := h
  obtain ⟨as, r1⟩ := Dp.reads I d x v hd rx
  obtain ⟨bs, r2⟩ := Dp.reads I (.tuple ds) y u he ry
  exact SeqAt.in_tuple_reads r2 r1 (SeqAt.canLay_of_shaped se) (SeqAt.canLay_of_shaped sd) (room_in_shaped sd hu) ⟨.bl _, H, I, rfl, q⟩
theorem op_notInT (hu : X.A.units + 65 < cLine) : OpR X (compareOp .NotIn) (rNotInT X.K) := by
  intro pins s σ H x y v u Q I rx ry h
  obtain ⟨d, ds, hd, he, sd, se, q⟩ := h
  obtain ⟨as, r1⟩ := Dp.reads I d x v hd rx
  obtain ⟨bs, r2⟩ := Dp.reads I (.tuple ds) y u he ry
  exact SeqAt.notIn_tuple_reads r2 r1 (SeqAt.canLay_of_shaped se) (SeqAt.canLay_of_shaped sd) (room_in_shaped sd hu) ⟨.bl _, H, I, rfl, q⟩
def rInStr : R2 := fun x y H Q => ∃ i j, x = .str i ∧ y = .str j ∧ Q (.bl (!(Builtin.Str.occurrences j i 0 j.length 1).isEmpty)) H
def rNotInStr : R2 := fun x y H Q => ∃ i j, x = .str i ∧ y = .str j ∧ Q (.bl (!(!(Builtin.Str.occurrences j i 0 j.length 1).isEmpty))) H
def rInA (K : PySem.W.Frag) : R2 := fun x y H Q => rInD K x y H Q ∨ rInT K x y H Q ∨ rInStr x y H Q
def rNotInA (K : PySem.W.Frag) : R2 := fun x y H Q => rNotInD K x y H Q ∨ rNotInT K x y H Q ∨ rNotInStr x y H Q
theorem op_inA (hu : X.A.units + 65 < cLine) : OpR X (compareOp .In) (rInA X.K) := (op_inD hu).or ((op_inT hu).or op_in_str)
theorem op_notInA (hu : X.A.units + 65 < cLine) : OpR X (compareOp .NotIn) (rNotInA X.K) := (op_notInD hu).or ((op_notInT hu).or op_notin_str)
/-- is, with None, True, False at the right -/
def plainV : V → Bool
  | .non => true
  | .bl _ => true
  | _ => false
def rIsP : R2 := fun x y H Q => plainV y = true ∧ Q (.bl (decide (x = y))) H
def rNotP : R2 := fun x y H Q => plainV y = true ∧ Q (.bl (!decide (x = y))) H
theorem plain_of {x y : V} {v u : Value} (rx : RelV x v) (ry : RelV y u) (h : plainV y = true) : plainIs v u = true ∧ (v == u) = decide (x = y) := by
  have e : x = y ↔ v = u := by
    constructor
    · intro z
      subst z
      cases x with
      | non => rw [show v = _ from rx, show u = _ from ry]
      | bl b => rw [show v = _ from rx, show u = _ from ry]
      | _ => cases h
    · intro z
      subst z
      exact rx.inj ry
  have e2 : (v == u) = decide (x = y) := by
    by_cases z : x = y
    · rw [decide_eq_true z, e.mp z]; exact beq_self_eq_true _
    · rw [decide_eq_false z]; exact beq_eq_false_iff_ne.mpr fun q => z (e.mpr q)
  refine ⟨?_, e2⟩
  cases y with
  | non =>
    rw [show u = _ from ry]
    cases x with
    | int i => obtain ⟨t, rfl⟩ := rx; rfl
    | str i => obtain ⟨t, rfl⟩ := rx; rfl
    | byt i => obtain ⟨t, rfl⟩ := rx; rfl
    | flt i => obtain ⟨t, rfl⟩ := rx; rfl
    | _ => rw [show v = _ from rx]; rfl
  | bl b =>
    rw [show u = _ from ry]
    cases x with
    | int i => obtain ⟨t, rfl⟩ := rx; rfl
    | str i => obtain ⟨t, rfl⟩ := rx; rfl
    | byt i => obtain ⟨t, rfl⟩ := rx; rfl
    | flt i => obtain ⟨t, rfl⟩ := rx; rfl
    | _ => rw [show v = _ from rx]; rfl
  | _ => cases h
theorem op_isP : OpR X (compareOp .Is) rIsP := by
  intro pins s σ H x y v u Q I rx ry h
  obtain ⟨h, q⟩ := h
  obtain ⟨p, e⟩ := plain_of rx ry h
  exact wpAny_is_plain p ⟨.bl _, H, I, by rw [e]; rfl, q⟩
theorem op_notP : OpR X (compareOp .IsNot) rNotP := by
  intro pins s σ H x y v u Q I rx ry h
  obtain ⟨h, q⟩ := h
  obtain ⟨p, e⟩ := plain_of rx ry h
  exact wpAny_isNot_plain p ⟨.bl _, H, I, by rw [e]; rfl, q⟩
end
def gEq : D → D → Option R := fun a b => if SeqAt.shaped a = true ∧ SeqAt.shaped b = true then some (.d (.bool (PyData.eqv a b))) else none
def gNe : D → D → Option R := fun a b => if SeqAt.shaped a = true ∧ SeqAt.shaped b = true then some (.d (.bool (!PyData.eqv a b))) else none
theorem gEq_ok {K : PySem.W.Frag} : Op2 K (rEqD K) gEq := by
  intro a b va vb H Q res ha hb e q
  obtain ⟨⟨h1, h2⟩, e⟩ := if_some e
  subst e
  exact ⟨a, b, ha.dp (lay_of h1), hb.dp (lay_of h2), h1, h2, q _ _ new_bl⟩
theorem gNe_ok {K : PySem.W.Frag} : Op2 K (rNeD K) gNe := by
  intro a b va vb H Q res ha hb e q
  obtain ⟨⟨h1, h2⟩, e⟩ := if_some e
  subst e
  exact ⟨a, b, ha.dp (lay_of h1), hb.dp (lay_of h2), h1, h2, q _ _ new_bl⟩
/-- items of what is searched -/
def memD (d : D) (ds : List D) : Bool := ds.any fun z => PyData.eqv z d
def gIn : D → D → Option R
  | d, .list ds => if SeqAt.shaped d = true ∧ SeqAt.shaped (.list ds) = true then some (.d (.bool (memD d ds))) else none
  | d, .tuple ds => if SeqAt.shaped d = true ∧ SeqAt.shaped (.tuple ds) = true then some (.d (.bool (memD d ds))) else none
  | .str i, .str j => some (.d (.bool (!(Builtin.Str.occurrences j i 0 j.length 1).isEmpty)))
  | _, _ => none
def gNotIn : D → D → Option R
  | d, .list ds => if SeqAt.shaped d = true ∧ SeqAt.shaped (.list ds) = true then some (.d (.bool (!memD d ds))) else none
  | d, .tuple ds => if SeqAt.shaped d = true ∧ SeqAt.shaped (.tuple ds) = true then some (.d (.bool (!memD d ds))) else none
  | .str i, .str j => some (.d (.bool (!(!(Builtin.Str.occurrences j i 0 j.length 1).isEmpty))))
  | _, _ => none
theorem gIn_ok {K : PySem.W.Frag} : Op2 K (rInA K) gIn := by
  intro a b va vb H Q res ha hb e q
  unfold gIn at e
  split at e
  · obtain ⟨⟨h1, h2⟩, e⟩ := if_some e
    subst e
    exact .inl ⟨_, _, ha.dp (lay_of h1), hb.dp (lay_of h2), h1, h2, q _ _ new_bl⟩
  · obtain ⟨⟨h1, h2⟩, e⟩ := if_some e
    subst e
    exact .inr (.inl ⟨_, _, ha.dp (lay_of h1), hb.dp (lay_of h2), h1, h2, q _ _ new_bl⟩)
  · cases e
    exact .inr (.inr ⟨_, _, view_str ha, view_str hb, q _ _ new_bl⟩)
  · cases e
theorem gNotIn_ok {K : PySem.W.Frag} : Op2 K (rNotInA K) gNotIn := by
  intro a b va vb H Q res ha hb e q
  unfold gNotIn at e
  split at e
  · obtain ⟨⟨h1, h2⟩, e⟩ := if_some e
    subst e
    exact .inl ⟨_, _, ha.dp (lay_of h1), hb.dp (lay_of h2), h1, h2, q _ _ new_bl⟩
  · obtain ⟨⟨h1, h2⟩, e⟩ := if_some e
    subst e
    exact .inr (.inl ⟨_, _, ha.dp (lay_of h1), hb.dp (lay_of h2), h1, h2, q _ _ new_bl⟩)
  · cases e
    exact .inr (.inr ⟨_, _, view_str ha, view_str hb, q _ _ new_bl⟩)
  · cases e
/-- d is None, True, False -/
@[simp] def isD : D → D → Option Bool
  | .none, .none => some true
  | _, .none => some false
  | .bool a, .bool b => some (decide (a = b))
  | _, .bool _ => some false
  | _, _ => none
@[simp] def gIs (a b : D) : Option R := (isD a b).map fun k => .d (.bool k)
@[simp] def gIsNot (a b : D) : Option R := (isD a b).map fun k => .d (.bool (!k))
theorem isD_ok {K : PySem.W.Frag} {H : Hp} {a b : D} {va vb : V} {k : Bool} (ha : View K H a va) (hb : View K H b vb) (e : isD a b = some k) : plainV vb = true ∧ decide (va = vb) = k := by
  cases b with
  | none =>
    rw [show vb = _ from hb]
    refine ⟨rfl, ?_⟩
    cases a <;> first | (cases e) | skip
    · rw [show va = _ from ha]; rfl
    · rw [show va = _ from ha]; rfl
    · rw [show va = _ from ha]; rfl
    · rw [show va = _ from ha]; rfl
    · obtain ⟨p, xs, rfl, _⟩ := view_lst ha; rfl
    · obtain ⟨p, xs, rfl, _⟩ := view_tup ha; rfl
    · obtain ⟨c, p, _, rfl, _⟩ := (show Fz K H (.dict _) va from ha); rfl
  | bool b =>
    rw [show vb = _ from hb]
    refine ⟨rfl, ?_⟩
    cases a <;> first | (cases e) | skip
    · rw [show va = _ from ha]; rfl
    · rw [show va = _ from ha]; simp
    · rw [show va = _ from ha]; rfl
    · rw [show va = _ from ha]; rfl
    · obtain ⟨p, xs, rfl, _⟩ := view_lst ha; rfl
    · obtain ⟨p, xs, rfl, _⟩ := view_tup ha; rfl
    · obtain ⟨c, p, _, rfl, _⟩ := (show Fz K H (.dict _) va from ha); rfl
  | _ => cases a <;> cases e
theorem gIs_ok {K : PySem.W.Frag} : Op2 K rIsP gIs := by
  intro a b va vb H Q res ha hb e q
  obtain ⟨k, e1, rfl⟩ := Option.map_eq_some_iff.mp e
  obtain ⟨p, e2⟩ := isD_ok ha hb e1
  exact ⟨p, by rw [e2]; exact q _ _ new_bl⟩
theorem gIsNot_ok {K : PySem.W.Frag} : Op2 K rNotP gIsNot := by
  intro a b va vb H Q res ha hb e q
  obtain ⟨k, e1, rfl⟩ := Option.map_eq_some_iff.mp e
  obtain ⟨p, e2⟩ := isD_ok ha hb e1
  exact ⟨p, by rw [e2]; exact q _ _ new_bl⟩

/-! ### items, slices -/
@[simp] def gIx : D → D → Option R
  | .list ds, .int i => (atI ds i).map R.d
  | .tuple ds, .int i => (atI ds i).map R.d
  | .str z, .int i => if z.length ≤ sizeLine then (atI z.cps.toList i).map fun c => R.d (.str ⟨#[c]⟩) else none
  | _, _ => none
theorem FzAll.atI {K : PySem.W.Frag} {H : Hp} {ds : List D} {vs : List V} {i : Int} {d : D} (h : FzAll K H ds vs) (e : atI ds i = some d) : ∃ v, L2.atI vs i = some v ∧ Fz K H d v := by
  unfold L2.atI at e ⊢
  rw [← h.length]
  cases q : ixN ds.length i with
  | none => rw [q] at e; cases e
  | some j =>
    rw [q] at e
    exact h.get e
theorem gIx_ok {K : PySem.W.Frag} : Op2 K (rIx K) gIx := by
  intro a b va vb H Q res ha hb e q
  unfold gIx at e
  split at e
  · obtain ⟨d, e1, rfl⟩ := Option.map_eq_some_iff.mp e
    obtain ⟨p, xs, rfl, h1, h2⟩ := view_lst ha
    obtain ⟨v, e', hv⟩ := h2.atI e1
    exact .inl ⟨p, xs, _, v, rfl, view_int hb, .inl h1, e', q _ _ (old_d hv)⟩
  · obtain ⟨d, e1, rfl⟩ := Option.map_eq_some_iff.mp e
    obtain ⟨p, xs, rfl, h1, h2⟩ := view_tup ha
    obtain ⟨v, e', hv⟩ := h2.atI e1
    exact .inr (.inl ⟨p, xs, _, v, rfl, view_int hb, h1, e', q _ _ (old_d hv)⟩)
  · split at e
    · obtain ⟨d, e1, rfl⟩ := Option.map_eq_some_iff.mp e
      exact .inr (.inr ⟨_, _, d, view_str ha, view_int hb, by assumption, e1, q _ _ new_str⟩)
    · cases e
  · cases e
/-- items of xs[lo:hi] -/
def cutL {α : Type} (xs : List α) (lo hi : Option Int) : List α := (xs.drop (HT.sIx xs.length 0 lo)).take (HT.sIx xs.length xs.length hi - HT.sIx xs.length 0 lo)
def gSl (x : D) (lo hi : Option Int) : Option R := match x with
  | .list ds => some (.own (cutL ds lo hi))
  | .tuple ds => some (.d (.tuple (cutL ds lo hi)))
  | .str z => if z.length ≤ sizeLine then some (.d (.str (cutS z lo hi))) else none
  | _ => none
def rSlD (K : PySem.W.Frag) : V → Option Int → Option Int → Hp → VK → Prop := fun x lo hi H Q => rSlL K x lo hi H Q ∨ rSlA K x lo hi H Q ∨ rSlS x lo hi H Q
theorem sl_D {X : Cx} : SlR X (rSlD X.K) := sl_list.or (sl_tupA.or sl_str)
theorem FzAll.cut {K : PySem.W.Frag} {H : Hp} {ds : List D} {vs : List V} (h : FzAll K H ds vs) (lo hi : Option Int) : FzAll K H (cutL ds lo hi) (cutV vs lo hi) := by
  unfold cutL cutV
  rw [h.length]
  exact (h.drop _).take _
theorem gSl_ok {K : PySem.W.Frag} {a : D} {lo hi : Option Int} {va : V} {H : Hp} {Q : VK} {res : R} (ha : View K H a va) (e : gSl a lo hi = some res) (q : ∀ v' H', NewR K H H' res v' → Q v' H') : rSlD K va lo hi H Q := by
  unfold gSl at e
  split at e
  · cases e
    obtain ⟨p, xs, rfl, h1, h2⟩ := view_lst ha
    exact .inl ⟨p, xs, rfl, .inl h1, fun r n => q _ _ (new_lst n (h2.cut lo hi))⟩
  · cases e
    obtain ⟨p, xs, rfl, h1, h2⟩ := view_tup ha
    refine .inr (.inl ⟨p, xs, rfl, h1, fun z => ?_, fun _ r n => q _ _ (new_tup n (h2.cut lo hi))⟩)
    refine q _ _ (old_d ⟨p, xs, rfl, h1, ?_⟩)
    have := h2.cut lo hi
    unfold cutV at this
    rw [z.1, z.2, Nat.sub_zero, List.drop_zero, List.take_length] at this
    exact this
  · obtain ⟨hc, e⟩ := if_some e
    subst e
    exact .inr (.inr ⟨_, view_str ha, hc, q _ _ new_str⟩)
  · cases e
section
variable {X : Cx} {W : WX} {a b c e : Expr} {Ea Eb Ec E : S → Res R} {pos : Pos}
theorem de_mul (ha : DE X W a Ea) (hb : DE X W b Eb) : DE X W (.BinOp a .Mult b pos) (eOp2 gMul Ea Eb) := de_bin op_mulD gMul_ok ha hb
theorem de_ix (ha : DE X W a Ea) (hb : DE X W b Eb) (hs : PlainIx b := by exact fun _ _ => rfl) : DE X W (.Subscript a b pos) (eOp2 gIx Ea Eb) := pe_weak (pe_ix ix_seq ha hb hs) fun _ _ _ h => post_op2 gIx_ok h
theorem de_lt (ha : DE X W a Ea) (hb : DE X W b Eb) : DE X W (.Compare a [.Lt] [b] pos) (eOp2 gLt Ea Eb) := de_cmp op_lt gB0_ok ha hb
theorem de_le (ha : DE X W a Ea) (hb : DE X W b Eb) : DE X W (.Compare a [.LtE] [b] pos) (eOp2 gLe Ea Eb) := de_cmp op_le gB0_ok ha hb
theorem de_gt (ha : DE X W a Ea) (hb : DE X W b Eb) : DE X W (.Compare a [.Gt] [b] pos) (eOp2 gGt Ea Eb) := de_cmp op_gt gB0_ok ha hb
theorem de_ge (ha : DE X W a Ea) (hb : DE X W b Eb) : DE X W (.Compare a [.GtE] [b] pos) (eOp2 gGe Ea Eb) := de_cmp op_ge gB0_ok ha hb
theorem de_eq (hu : X.A.units + 65 < cLine) (ha : DE X W a Ea) (hb : DE X W b Eb) : DE X W (.Compare a [.Eq] [b] pos) (eOp2 gEq Ea Eb) := de_cmp (op_eqD (by omega)) gEq_ok ha hb
theorem de_ne (hu : X.A.units + 65 < cLine) (ha : DE X W a Ea) (hb : DE X W b Eb) : DE X W (.Compare a [.NotEq] [b] pos) (eOp2 gNe Ea Eb) := de_cmp (op_neD (by omega)) gNe_ok ha hb
theorem de_in (hu : X.A.units + 65 < cLine) (ha : DE X W a Ea) (hb : DE X W b Eb) (hm : behindInMarks .In b = false := by with_unfolding_all rfl) : DE X W (.Compare a [.In] [b] pos) (eOp2 gIn Ea Eb) := de_cmp (op_inA hu) gIn_ok ha hb hm
theorem de_nin (hu : X.A.units + 65 < cLine) (ha : DE X W a Ea) (hb : DE X W b Eb) (hm : behindInMarks .NotIn b = false := by with_unfolding_all rfl) : DE X W (.Compare a [.NotIn] [b] pos) (eOp2 gNotIn Ea Eb) := de_cmp (op_notInA hu) gNotIn_ok ha hb hm
theorem de_is (ha : DE X W a Ea) (hb : DE X W b Eb) : DE X W (.Compare a [.Is] [b] pos) (eOp2 gIs Ea Eb) := de_cmp op_isP gIs_ok ha hb
theorem de_isn (ha : DE X W a Ea) (hb : DE X W b Eb) : DE X W (.Compare a [.IsNot] [b] pos) (eOp2 gIsNot Ea Eb) := de_cmp op_notP gIsNot_ok ha hb
abbrev DT (X : Cx) (W : WX) (e : Expr) (T : S → Res Bool) : Prop := PT X e (rdT X.K X.mg W T)
theorem dt_lt (ha : DE X W a Ea) (hb : DE X W b Eb) : DT X W (.Compare a [.Lt] [b] pos) (tTru isBool (eOp2 gLt Ea Eb)) := dt_cmp op_lt gB0_ok ha hb
theorem dt_le (ha : DE X W a Ea) (hb : DE X W b Eb) : DT X W (.Compare a [.LtE] [b] pos) (tTru isBool (eOp2 gLe Ea Eb)) := dt_cmp op_le gB0_ok ha hb
theorem dt_gt (ha : DE X W a Ea) (hb : DE X W b Eb) : DT X W (.Compare a [.Gt] [b] pos) (tTru isBool (eOp2 gGt Ea Eb)) := dt_cmp op_gt gB0_ok ha hb
theorem dt_ge (ha : DE X W a Ea) (hb : DE X W b Eb) : DT X W (.Compare a [.GtE] [b] pos) (tTru isBool (eOp2 gGe Ea Eb)) := dt_cmp op_ge gB0_ok ha hb
theorem dt_eq (hu : X.A.units + 65 < cLine) (ha : DE X W a Ea) (hb : DE X W b Eb) : DT X W (.Compare a [.Eq] [b] pos) (tTru isBool (eOp2 gEq Ea Eb)) := dt_cmp (op_eqD (by omega)) gEq_ok ha hb
theorem dt_ne (hu : X.A.units + 65 < cLine) (ha : DE X W a Ea) (hb : DE X W b Eb) : DT X W (.Compare a [.NotEq] [b] pos) (tTru isBool (eOp2 gNe Ea Eb)) := dt_cmp (op_neD (by omega)) gNe_ok ha hb
theorem dt_in (hu : X.A.units + 65 < cLine) (ha : DE X W a Ea) (hb : DE X W b Eb) (hm : behindInMarks .In b = false := by with_unfolding_all rfl) : DT X W (.Compare a [.In] [b] pos) (tTru isBool (eOp2 gIn Ea Eb)) := dt_cmp (op_inA hu) gIn_ok ha hb hm
theorem dt_nin (hu : X.A.units + 65 < cLine) (ha : DE X W a Ea) (hb : DE X W b Eb) (hm : behindInMarks .NotIn b = false := by with_unfolding_all rfl) : DT X W (.Compare a [.NotIn] [b] pos) (tTru isBool (eOp2 gNotIn Ea Eb)) := dt_cmp (op_notInA hu) gNotIn_ok ha hb hm
theorem dt_is (ha : DE X W a Ea) (hb : DE X W b Eb) : DT X W (.Compare a [.Is] [b] pos) (tTru isBool (eOp2 gIs Ea Eb)) := dt_cmp op_isP gIs_ok ha hb
theorem dt_isn (ha : DE X W a Ea) (hb : DE X W b Eb) : DT X W (.Compare a [.IsNot] [b] pos) (tTru isBool (eOp2 gIsNot Ea Eb)) := dt_cmp op_notP gIsNot_ok ha hb
end
end FL

set_option Elab.async false
set_option linter.all false
set_option maxRecDepth 100000
set_option maxHeartbeats 1000000
/-! FL: giving a list away for good; displays, chains, slices. -/
namespace FL
open PySem PySem.Spec PyProof.Rows L2

/-! ### a list that is given away for good: from then on it never changes -/
theorem inv_frz {X : Cx} {pins : List (Addr × Obj)} {σ : L2.St} {H : Hp} {s : Shared} {a : Addr} {xs : List V} (I : Inv X pins σ H s) (h : H a = some (.lst xs)) : ∃ o, Inv X pins σ (upd H a (.frz o (.lst xs))) s := by
  obtain ⟨z, its, n, r, e⟩ := I.hok a _ h
  refine ⟨_, Inv.write (h' := s.heap) (t' := s.toks) (e := a) I (by rw [h]; trivial) (.inl rfl) (fun _ _ _ q => q) ⟨_, e⟩ (o := .frz _ (.lst xs)) ⟨e, z, its, n, r, e⟩⟩
theorem pe_frz {X : Cx} {e : Expr} {t : TE} (h : PE X e t) : PE X e (fun σv H Q => t σv H fun v H1 => Q v H1 ∨ ∃ a xs, v = .ref a ∧ H1 a = some (.lst xs) ∧ ∀ o, Q v (upd H1 a (.frz o (.lst xs)))) := by
  refine ⟨fun pins s σ H Q I q => ?_⟩
  refine thn (h.run pins s σ H _ I q) fun u s1 ⟨v, H1, I1, r, q1⟩ => ?_
  rcases q1 with q1 | ⟨a, xs, rfl, ea, q1⟩
  · exact ⟨v, H1, I1, r, q1⟩
  · obtain ⟨o, I2⟩ := inv_frz I1 ea
    exact ⟨.ref a, _, I2, r, q1 o⟩
@[simp] def toD : R → S → Res D
  | .d x, σ => .ok x σ
  | .own ds, σ => .ok (.list ds) σ
  | .slot i, σ => match σ[i]? with
    | some (some (.d x)) => .ok x σ
    | some (some (.l .own ds)) => .ok (.list ds) (σ.set i (some (.d (.list ds))))
    | _ => .bad
section
variable {K : PySem.W.Frag} {H H1 : Hp} {σ σ1 : S} {σv : L2.St}
theorem imm_frz {a : Addr} {vs : List V} {o : Obj} (e : H1 a = some (.lst vs)) : Imm H1 (upd H1 a (.frz o (.lst vs))) :=
  ⟨fun b xs q => by rw [upd_ne (fun z => by rw [z, e] at q; cases q)]; exact q, fun b o' u q => by rw [upd_ne (fun z => by rw [z, e] at q; cases q)]; exact q, fun b φ q => by rw [upd_ne (fun z => by rw [z, e] at q; cases q)]; exact q⟩
theorem At.set_ne {i j : Nat} {t : Tag} {a : Addr} {c : Option C} (h : At (σ.set i c) σv j t a) (n : j ≠ i) : At σ σv j t a := by
  obtain ⟨⟨ds, e⟩, ev⟩ := h
  rw [List.getElem?_set_ne (Ne.symm n)] at e
  exact ⟨⟨ds, e⟩, ev⟩
theorem get_set {i : Nat} {c : Option C} {k : Option C} (e : σ[i]? = some k) : (σ.set i c)[i]? = some c := by
  rw [List.getElem?_set_self]
  exact (List.getElem?_eq_some_iff.mp e).1
/-- the new list at a is given away -/
theorem Step.frz_own {a : Addr} {vs : List V} {ds : List D} {o : Obj} (s0 : SRel K H σ σv) (st : Step K H σ σv H1 σ1) (h0 : H a = none) (h1 : H1 a = some (.lst vs)) (h2 : FzAll K H1 ds vs) :
    Step K H σ σv (upd H1 a (.frz o (.lst vs))) σ1 ∧ Fz K (upd H1 a (.frz o (.lst vs))) (.list ds) (.ref a) := by
  have m := imm_frz (o := o) h1
  have na : ∀ b x, H b = some x → b ≠ a := fun b x e z => by rw [z, h0] at e; cases e
  refine ⟨⟨⟨fun b x e nb => ?_, fun b e => ?_⟩, ⟨st.rel.len, fun i c e => ?_, st.rel.apart, fun p hp => tab_upd (st.rel.tab p hp) h1 fun _ z => by cases z⟩, st.sub⟩, a, vs, rfl, ⟨o, upd_same⟩, FzAll.mono m ds h2⟩
  · rw [upd_ne (na b x e)]
    exact st.keep.kept b x e nb
  · by_cases hb : b = a
    · rw [hb]; exact h0
    · rw [upd_ne hb] at e
      exact st.keep.gone b e
  · obtain ⟨v, e1, hc⟩ := st.rel.val i c e
    refine ⟨v, e1, CRel.mono m (fun t ds p ec ev vs' q => ?_) hc⟩
    subst ec ev
    have : At σ σv i t p := st.sub.at ⟨⟨ds, e⟩, e1⟩
    obtain ⟨vs0, _, q0, _⟩ := s0.at_lst this
    rw [upd_ne (na p _ q0)]
    exact q
/-- the list of slot i is given away -/
theorem Step.frz_slot {i : Nat} {a : Addr} {vs : List V} {ds : List D} {o : Obj} (st : Step K H σ σv H1 σ1) (e : σ1[i]? = some (some (.l .own ds))) (ev : σv[i]? = some (some (.ref a))) (h1 : H1 a = some (.lst vs)) (h2 : FzAll K H1 ds vs) :
    Step K H σ σv (upd H1 a (.frz o (.lst vs))) (σ1.set i (some (.d (.list ds)))) ∧ Fz K (upd H1 a (.frz o (.lst vs))) (.list ds) (.ref a) := by
  have m := imm_frz (o := o) h1
  have hat : At σ1 σv i .own a := ⟨⟨ds, e⟩, ev⟩
  have hfz : Fz K (upd H1 a (.frz o (.lst vs))) (.list ds) (.ref a) := ⟨a, vs, rfl, ⟨o, upd_same⟩, FzAll.mono m ds h2⟩
  have hown : OwnM σ σv a := ⟨i, .own, by decide, st.sub.at hat⟩
  refine ⟨⟨⟨fun b x eb nb => ?_, fun b eb => ?_⟩, ⟨by rw [List.length_set]; exact st.rel.len, fun j c ej => ?_, fun j k t u p hj hk => ?_, fun p hp => tab_upd (st.rel.tab p hp) h1 fun _ z => by cases z⟩, st.sub.trans fun j => ?_⟩, hfz⟩
  · have hb : b ≠ a := fun z => nb (z ▸ hown)
    rw [upd_ne hb]
    exact st.keep.kept b x eb nb
  · by_cases hb : b = a
    · subst hb
      rw [upd_same] at eb; cases eb
    · rw [upd_ne hb] at eb
      exact st.keep.gone b eb
  · by_cases hj : j = i
    · subst hj
      rw [get_set e] at ej
      cases ej
      exact ⟨_, ev, hfz⟩
    · rw [List.getElem?_set_ne (Ne.symm hj)] at ej
      obtain ⟨v, e1, hc⟩ := st.rel.val j c ej
      refine ⟨v, e1, CRel.mono m (fun t ds' p ec ep vs' q => ?_) hc⟩
      subst ec ep
      have hp : p ≠ a := fun z => hj (st.rel.apart j i t .own a ⟨⟨ds', ej⟩, z ▸ e1⟩ hat)
      rw [upd_ne hp]
      exact q
  · have nj : ∀ j t p, At (σ1.set i (some (C.d (.list ds)))) σv j t p → j ≠ i := fun j t p ⟨⟨ds', q⟩, _⟩ z => by
      subst z
      rw [get_set e] at q
      cases q
    exact st.rel.apart j k t u p (hj.set_ne (nj _ _ _ hj)) (hk.set_ne (nj _ _ _ hk))
  · by_cases hj : j = i
    · subst hj
      rw [e, get_set e]
      exact .inr ⟨_, rfl⟩
    · rw [List.getElem?_set_ne (Ne.symm hj)]
      exact SubC.refl _
end
@[simp] def eFrz (E : S → Res R) (σ : S) : Res R := (E σ).bind fun r σ1 => (toD r σ1).bind fun d σ2 => .ok (.d d) σ2
/-- what toD says, at the heap -/
theorem toD_frz {K : PySem.W.Frag} {mg : Str → Option Value} {W : WX} {H H1 : Hp} {σ σ1 : S} {σv : L2.St} {r : R} {v : V} {Q : VK} (s : SRel K H σ σv) (st : Step K H σ σv H1 σ1) (rr : RRel K H H1 σ1 σv r v)
    (h : Post K mg W (RRel K) H σ σv Q ((toD r σ1).bind fun d σ2 => .ok (.d d) σ2)) : Q v H1 ∨ ∃ a xs, v = .ref a ∧ H1 a = some (.lst xs) ∧ ∀ o, Q v (upd H1 a (.frz o (.lst xs))) := by
  cases r with
  | d x => exact .inl (h v H1 st rr)
  | own ds =>
    obtain ⟨a, vs, rfl, h0, h1, h2⟩ := rr
    refine .inr ⟨a, vs, rfl, h1, fun o => ?_⟩
    obtain ⟨st', fz⟩ := st.frz_own (o := o) s h0 h1 h2
    exact h _ _ st' fz
  | slot i =>
    obtain ⟨e1, c, ec⟩ := rr
    obtain ⟨v', e2, hc⟩ := st.rel.val i c ec
    rw [e1] at e2
    have ev : v = v' := by injection e2 with q; injection q
    subst ev
    simp only [toD, ec] at h
    cases c with
    | d x => exact .inl (h v H1 st hc)
    | l t ds =>
      cases t with
      | own =>
        obtain ⟨a, vs, rfl, h1, h2⟩ := hc
        refine .inr ⟨a, vs, rfl, h1, fun o => ?_⟩
        obtain ⟨st', fz⟩ := st.frz_slot (o := o) ec e1 h1 h2
        exact h _ _ st' fz
      | par => exact False.elim h
      | lck => exact False.elim h
section
variable {X : Cx} {W : WX} {a b c e : Expr} {Ea Eb Ec E : S → Res R} {pos : Pos}
theorem de_frz (he : DE X W e E) : DE X W e (eFrz E) := by
  refine pe_weak (pe_frz he) fun σv H Q ⟨σ, s, h⟩ => ⟨σ, s, ?_⟩
  unfold eFrz at h
  cases ea : E σ with
  | bad => rw [ea] at h; exact False.elim h
  | exc c σ1 => rw [ea] at h; exact h
  | ok r σ1 =>
    rw [ea] at h
    intro v H1 st rr
    exact toD_frz s st rr h
/-- a slot's list alone is given away; a new one stays new -/
@[simp] def eMov (E : S → Res R) (σ : S) : Res R := (E σ).bind fun r σ1 => match r with
  | .own ds => .ok (.own ds) σ1
  | r => (toD r σ1).bind fun d σ2 => .ok (.d d) σ2
theorem de_mov (he : DE X W e E) : DE X W e (eMov E) := by
  refine pe_weak (pe_frz he) fun σv H Q ⟨σ, s, h⟩ => ⟨σ, s, ?_⟩
  unfold eMov at h
  cases ea : E σ with
  | bad => rw [ea] at h; exact False.elim h
  | exc c σ1 => rw [ea] at h; exact h
  | ok r σ1 =>
    rw [ea] at h
    intro v H1 st rr
    cases r with
    | own ds => exact .inl (h v H1 st rr)
    | d x => exact toD_frz s st rr h
    | slot i => exact toD_frz s st rr h

/-! ### rows of data -/
@[simp] def aNil (σ : S) : Res (List D) := .ok [] σ
@[simp] def aCons (E : S → Res R) (A : S → Res (List D)) (σ : S) : Res (List D) := (E σ).bind fun r σ1 => (toD r σ1).bind fun d σ2 => (A σ2).bind fun ds σ3 => .ok (d :: ds) σ3
variable {es : List Expr} {A : S → Res (List D)}
abbrev DA (X : Cx) (W : WX) (es : List Expr) (A : S → Res (List D)) : Prop := PA X es (rdA X.K X.mg W A)
theorem da_nil : DA X W [] aNil := pa_weak pa_nil fun σv H Q ⟨σ, s, h⟩ => h [] H (Step.refl s) FzAll.nil
theorem Res.bind_ok {α β : Type} {x : Res α} {f : α → S → Res β} {b : β} {σ : S} (h : x.bind f = .ok b σ) : ∃ a σ1, x = .ok a σ1 ∧ f a σ1 = .ok b σ := by
  cases x with
  | ok a σ1 => exact ⟨a, σ1, rfl, h⟩
  | exc c σ1 => cases h
  | bad => cases h
theorem toD_cases (r : R) (σ : S) : (∃ d σ1, toD r σ = .ok d σ1) ∨ toD r σ = .bad := by
  cases r with
  | d x => exact .inl ⟨_, _, rfl⟩
  | own ds => exact .inl ⟨_, _, rfl⟩
  | slot i =>
    simp only [toD]
    split
    · exact .inl ⟨_, _, rfl⟩
    · exact .inl ⟨_, _, rfl⟩
    · exact .inr rfl
theorem da_cons (ha : DE X W e E) (hr : DA X W es A) (hs : starEach (e :: es) X.env = (false, eval e X.env) :: starEach es X.env := by rfl) : DA X W (e :: es) (aCons E A) := by
  refine pa_weak (pa_cons (de_frz ha) hr hs) fun σv H Q ⟨σ, s, h⟩ => ⟨σ, s, ?_⟩
  unfold aCons at h
  unfold eFrz
  cases ea : E σ with
  | bad => rw [ea] at h; exact False.elim h
  | exc c σ1 => rw [ea] at h; exact h
  | ok r σ1 =>
    rw [ea] at h
    simp only [Res.bind] at h ⊢
    rcases toD_cases r σ1 with ⟨d, σ2, ed⟩ | ed
    · rw [ed] at h ⊢
      simp only at h ⊢
      intro v H1 st rr
      refine ⟨σ2, st.rel, ?_⟩
      cases ee : A σ2 with
      | bad => rw [ee] at h; exact False.elim h
      | exc c σ3 => rw [ee] at h; exact Post.exc_later h st
      | ok ds σ3 =>
        rw [ee] at h
        intro vs H2 st2 rr2
        exact h _ _ (st.trans st2) (FzAll.cons (Fz.mono (st2.imm st.rel) d rr) rr2)
    · rw [ed] at h
      exact False.elim h
@[simp] def eTup (A : S → Res (List D)) (σ : S) : Res R := (A σ).bind fun ds σ1 => if ds.length ≤ sizeLine then .ok (.d (.tuple ds)) σ1 else .bad
@[simp] def eLst (A : S → Res (List D)) (σ : S) : Res R := (A σ).bind fun ds σ1 => if ds.length ≤ sizeLine then .ok (.own ds) σ1 else .bad
theorem de_tup {x1 : Nat} (h : DA X W es A) : DE X W (.Tuple es x1 pos) (eTup A) := by
  refine pe_weak (pe_tup h) fun σv H Q ⟨σ, s, h⟩ => ⟨σ, s, ?_⟩
  unfold eTup at h
  cases ea : A σ with
  | bad => rw [ea] at h; exact False.elim h
  | exc c σ1 => rw [ea] at h; exact h
  | ok ds σ1 =>
    rw [ea] at h
    simp only [Res.bind] at h
    split at h
    · intro vs H1 st rr
      refine ⟨by rw [← rr.length]; assumption, fun p n => ?_⟩
      have nr := new_tup n rr
      exact h _ _ (st.trans (Step.same st.rel nr.same)) (NewR.rrel st nr)
    · exact False.elim h
theorem de_lst (h : DA X W es A) : DE X W (.List es pos) (eLst A) := by
  refine pe_weak (pe_lst h) fun σv H Q ⟨σ, s, h⟩ => ⟨σ, s, ?_⟩
  unfold eLst at h
  cases ea : A σ with
  | bad => rw [ea] at h; exact False.elim h
  | exc c σ1 => rw [ea] at h; exact h
  | ok ds σ1 =>
    rw [ea] at h
    simp only [Res.bind] at h
    split at h
    · intro vs H1 st rr
      refine ⟨by rw [← rr.length]; assumption, fun p n => ?_⟩
      have nr := new_lst n rr
      exact h _ _ (st.trans (Step.same st.rel nr.same)) (NewR.rrel st nr)
    · exact False.elim h

/-! ### a <= b <= c -/
@[simp] def eChain (g g' : D → D → Option R) (Ea Eb Ec : S → Res R) (σ : S) : Res R := (Ea σ).bind fun ra σ1 => (Eb σ1).bind fun rb σ2 => match view σ2 ra, view σ2 rb with
  | some a, some b => (match g a b with
    | some (.d (.bool k)) => if k = true then (Ec σ2).bind fun rc σ3 => (match view σ3 rb, view σ3 rc with
        | some b, some c => (match g' b c with
          | some r => .ok r σ3
          | none => .bad)
        | _, _ => .bad) else .ok (.d (.bool false)) σ2
    | _ => .bad)
  | _, _ => .bad
theorem post_chain {K : PySem.W.Frag} {mg : Str → Option Value} {r r' : R2} {g g' : D → D → Option R} (hg : Op2 K r g) (hg' : Op2 K r' g') {σv : L2.St} {H : Hp} {Q : VK} (h : rd K mg W (eChain g g' Ea Eb Ec) σv H Q) :
    tChain r r' (rd K mg W Ea) (rd K mg W Eb) (rd K mg W Ec) σv H Q := by
  obtain ⟨σ, s, h⟩ := h
  refine ⟨σ, s, ?_⟩
  unfold eChain at h
  cases ea : Ea σ with
  | bad => rw [ea] at h; exact False.elim h
  | exc c σ1 => rw [ea] at h; exact h
  | ok ra σ1 =>
    rw [ea] at h
    intro va H1 st1 rr1
    refine ⟨σ1, st1.rel, ?_⟩
    simp only [Res.bind] at h
    cases eb : Eb σ1 with
    | bad => rw [eb] at h; exact False.elim h
    | exc c σ2 => rw [eb] at h; exact Post.exc_later h st1
    | ok rb σ2 =>
      rw [eb] at h
      intro vb H2 st2 rr2
      have st := st1.trans st2
      have rr1 := rr1.later s st1 st2
      simp only at h
      split at h
      · rename_i x y ex ey
        split at h
        · rename_i k eg
          refine hg x y va vb H2 _ _ (rr1.view st.rel ex) (rr2.view st.rel ey) eg fun v' H' nr => ⟨k, nr.2, ?_⟩
          have st3 := st.trans (Step.same st.rel nr.same)
          cases k with
          | false => exact h _ _ st3 rfl
          | true =>
            refine ⟨σ2, st3.rel, ?_⟩
            have h : Post K mg W (RRel K) H σ σv Q ((Ec σ2).bind _) := h
            cases ec : Ec σ2 with
            | bad => rw [ec] at h; exact False.elim h
            | exc c σ3 => rw [ec] at h; exact Post.exc_later h st3
            | ok rc σ3 =>
              rw [ec] at h
              intro vc H3 st4 rr4
              have st5 := st3.trans st4
              have rr2' := (rr2.later (st1.rel) st2 (Step.same st2.rel nr.same)).later st1.rel (st2.trans (Step.same st2.rel nr.same)) st4
              simp only [Res.bind] at h
              split at h
              · rename_i y' z ey' ez
                split at h
                · rename_i res eg'
                  refine hg' y' z vb vc H3 Q res (rr2'.view st4.rel ey') (rr4.view st4.rel ez) eg' fun v'' H'' nr' => ?_
                  exact h v'' H'' (st5.trans (Step.same st4.rel nr'.same)) (NewR.rrel st5 nr')
                · exact False.elim h
              · exact False.elim h
        · exact False.elim h
      · exact False.elim h
theorem de_chain {op op' : CmpOp} {r r' : R2} {g g' : D → D → Option R} (ho : OpR X (compareOp op) r) (ho' : OpR X (compareOp op') r') (hg : Op2 X.K r g) (hg' : Op2 X.K r' g') (ha : DE X W a Ea) (hb : DE X W b Eb) (hc : DE X W c Ec)
    (hm : lastMarks [op, op'] [b, c] = false := by with_unfolding_all rfl) : DE X W (.Compare a [op, op'] [b, c] pos) (eChain g g' Ea Eb Ec) := pe_weak (pe_chain ho ho' ha hb hc hm) fun _ _ _ h => post_chain hg hg' h
theorem dt_chain {op op' : CmpOp} {r r' : R2} {g g' : D → D → Option R} (ho : OpR X (compareOp op) r) (ho' : OpR X (compareOp op') r') (hg : Op2 X.K r g) (hg' : Op2 X.K r' g') (ha : DE X W a Ea) (hb : DE X W b Eb) (hc : DE X W c Ec)
    (hm : lastMarks [op, op'] [b, c] = false := by with_unfolding_all rfl) : DT X W (.Compare a [op, op'] [b, c] pos) (tTru isBool (eChain g g' Ea Eb Ec)) :=
  pt_weak (pt_chain ho ho' ha hb hc hm) fun σv H Q h => post_chain hg hg' (post_tru (r := fun x H' Q => ∃ k, x = .bl k ∧ Q k H') (fun d v H k Q hv e q => ⟨k, isBool_ok hv e, q⟩) h)

/-! ### slices -/
@[simp] def oNo (σ : S) : Res (Option Int) := .ok none σ
@[simp] def oAt (E : S → Res R) (σ : S) : Res (Option Int) := (E σ).bind fun r σ1 => match view σ1 r with
  | some (.int i) => .ok (some i) σ1
  | _ => .bad
def rdO (K : PySem.W.Frag) (mg : Str → Option Value) (W : WX) (O : S → Res (Option Int)) : TO := fun σv H Q => ∃ σ, SRel K H σ σv ∧ Post K mg W (fun _ _ _ _ a b => a = b) H σ σv Q (O σ)
theorem po_weak {X : Cx} {e : Option Expr} {t t' : TO} (h : PO X e t) (w : ∀ σv H Q, t' σv H Q → t σv H Q) : PO X e t' := ⟨fun pins s σ H Q I q => h.run pins s σ H Q I (w σ H Q q)⟩
theorem do_no : PO X none (rdO X.K X.mg W oNo) := po_weak po_none fun σv H Q ⟨σ, s, h⟩ => h none H (Step.refl s) rfl
theorem do_at (he : DE X W e E) : PO X (some e) (rdO X.K X.mg W (oAt E)) := by
  refine po_weak (po_some he) fun σv H Q ⟨σ, s, h⟩ => ⟨σ, s, ?_⟩
  unfold oAt at h
  cases ea : E σ with
  | bad => rw [ea] at h; exact False.elim h
  | exc c σ1 => rw [ea] at h; exact h
  | ok r σ1 =>
    rw [ea] at h
    intro v H1 st rr
    simp only [Res.bind] at h
    split at h
    · rename_i i ei
      exact ⟨i, view_int (rr.view st.rel ei), h _ _ st rfl⟩
    · exact False.elim h
@[simp] def eSl (E : S → Res R) (L U : S → Res (Option Int)) (σ : S) : Res R := (E σ).bind fun r σ1 => (L σ1).bind fun lo σ2 => (U σ2).bind fun hi σ3 => match view σ3 r with
  | some d => (match gSl d lo hi with
    | some r => .ok r σ3
    | none => .bad)
  | none => .bad
theorem de_slice {lo hi : Option Expr} {p2 : Pos} {L U : S → Res (Option Int)} (he : DE X W e E) (hl : PO X lo (rdO X.K X.mg W L)) (hu : PO X hi (rdO X.K X.mg W U)) : DE X W (.Subscript e (.Slice lo hi none p2) pos) (eSl E L U) := by
  refine pe_weak (pe_slice sl_D he hl hu) fun σv H Q ⟨σ, s, h⟩ => ⟨σ, s, ?_⟩
  unfold eSl at h
  cases ea : E σ with
  | bad => rw [ea] at h; exact False.elim h
  | exc c σ1 => rw [ea] at h; exact h
  | ok r σ1 =>
    rw [ea] at h
    intro v H1 st1 rr1
    simp only [Res.bind] at h
    refine ⟨σ1, st1.rel, ?_⟩
    cases eb : L σ1 with
    | bad => rw [eb] at h; exact False.elim h
    | exc c σ2 => rw [eb] at h; exact Post.exc_later h st1
    | ok lo σ2 =>
      rw [eb] at h
      intro lo' H2 st2 e2
      subst e2
      have st := st1.trans st2
      simp only at h
      refine ⟨σ2, st.rel, ?_⟩
      cases ec : U σ2 with
      | bad => rw [ec] at h; exact False.elim h
      | exc c σ3 => rw [ec] at h; exact Post.exc_later h st
      | ok hi σ3 =>
        rw [ec] at h
        intro hi' H3 st3 e3
        subst e3
        have st4 := st.trans st3
        have rr := (rr1.later s st1 st2).later s st st3
        simp only at h
        split at h
        · rename_i d ed
          split at h
          · rename_i res eg
            refine gSl_ok (rr.view st4.rel ed) eg fun v' H' nr => ?_
            exact h v' H' (st4.trans (Step.same st4.rel nr.same)) (NewR.rrel st4 nr)
          · exact False.elim h
        · exact False.elim h
end
end FL

set_option Elab.async false
set_option linter.all false
set_option maxRecDepth 100000
set_option maxHeartbeats 2000000
/-! FL: built-in functions. -/
namespace FLx
open PySem PySem.Spec PyProof.Rows RT
/-! ### list(reversed(list)) -/
section
variable {prog : Program} {w : World} {A : Around} {E : Value → Shared → Prop} {s : Shared} {R : Result → Shared → Prop}
theorem extend_rev {it l : Addr} {items : Array Value} (hh : A.handled = none) (hit : s.heap.IsRevIter it l ((items.size : Int) - 1)) (hl : s.heap.IsList l items) (hne : l ≠ it) (hn : items.size ≤ sizeLine)
    (S : Addr) (res : Value) (c₀ : Nat) (hSi : S ≠ it) (hSl : S ≠ l) (hS : s.heap.get? S = some { cls := .type "list", data := .seq #[] c₀ })
    (hR : ∀ h' tk acc' c', (∀ b o, b ≠ S → b ≠ it → s.heap.get? b = some o → h'.get? b = some o) → h'.get? S = some { cls := .type "list", dict := none, data := .seq acc' c', slots := #[] } →
      ItemsOf (fun i v => items[items.size - 1 - i]? = some v) acc' items.size → R (.ok (.ret res)) { s with heap := h', toks := tk }) :
    wpAny (model prog w) A.in1 (Builtin.List.listExtendWith (.ref S) (.ref it) res)
      (fun fin s' => match fin with | .done f => R (.ok f) s' | .again c' => c'.quiet = true ∧ codeAny (model prog w) A c' R s') (fun e s' => R (.error e) s') s := by
  have W := (Walks.listRev (prog := prog) (w := w) (A := A.in1) hh it l hne items).toS
  have hSf : S ∉ [it, l] := by simp only [List.mem_cons, List.not_mem_nil, or_false, not_or]; exact ⟨hSi, hSl⟩
  have hT : s.TypeIs (.ref it) "list_reverseiterator" := Heap.IsRevIter.typeIs hit
  have h1 : Builtin.List.listSameRef (.ref S) (.ref it) = false := by simp [Builtin.List.listSameRef, hSi]
  unfold Builtin.List.listExtendWith
  refine wpAny_bind (wpAny_typeOf hT ?_)
  rw [if_neg (by rw [h1]; decide)]
  refine wpAny_bind (wpAny_pyIter_revIter hit ?_)
  refine wpAny_bind (wpAny_holding ?_)
  unfold Builtin.List.listLengthHint
  refine wpAny_bind (wpAny_specialOf hT nolen_lri ?_)
  show wpAny _ A.in1 (specialOf (Value.ref it) (Str.ofString "__length_hint__") >>= _) _ _ _
  refine wpAny_bind (wpAny_specialOf hT hint_lri ?_)
  generalize hid : ("list_reverseiterator.__length_hint__" : String) = id0
  wp_delta
  rw [show splitId id0 = some ("list_reverseiterator", "__length_hint__") from by subst hid; decide +kernel]
  subst hid
  refine wpAny_bind (wpAny_isInstance (b := true) hT (by rw [isSubtype_type]; kernel_rfl) ?_)
  refine wpAny_pure ?_
  rw [if_neg (by decide)]
  have e0 : ((items.size : Nat) : Int) - 1 - ((0 : Nat) : Int) = (items.size : Int) - 1 := by omega
  refine wpAny_pure ⟨plainId_quiet F.plain_extend_loop _, codeAny_extend_loopS W hn _ hSf _ items.size 0 _ _ _ rfl (Nat.zero_le _) ⟨Nat.zero_le _, by rw [e0]; exact hit, hl⟩ hS (ItemsOf.nil _) fun s' acc' c' hm hS' hacc => ?_⟩
  rw [Moved.eq_with hm]
  refine hR s'.heap s'.toks acc' c' (fun b o hb hb2 e => hm.heap b o (fun hmem => ?_) e) hS' hacc
  rcases List.mem_cons.mp hmem with e' | hmem
  · exact hb e'
  · exact hb2 (List.mem_singleton.mp hmem)
theorem init_rev {it l : Addr} {items : Array Value} (hh : A.handled = none) (hit : s.heap.IsRevIter it l ((items.size : Int) - 1)) (hl : s.heap.IsList l items) (hne : l ≠ it) (hn : items.size ≤ sizeLine)
    (S : Addr) (hSi : S ≠ it) (hSl : S ≠ l) (hS : s.heap.get? S = some { cls := .type "list", data := .seq #[] })
    (hR : ∀ h' tk acc' c', (∀ b o, b ≠ S → b ≠ it → s.heap.get? b = some o → h'.get? b = some o) → h'.get? S = some { cls := .type "list", dict := none, data := .seq acc' c', slots := #[] } →
      ItemsOf (fun i v => items[items.size - 1 - i]? = some v) acc' items.size → R (.ok (.ret .none)) { s with heap := h', toks := tk }) :
    wpAny (model prog w) A.in1 (Builtin.«list.__init__» ⟨[.ref S, .ref it], []⟩)
      (fun fin s' => match fin with | .done f => R (.ok f) s' | .again c' => c'.quiet = true ∧ codeAny (model prog w) A c' R s') (fun e s' => R (.error e) s') s := by
  show wpAny _ _ (do let old ← Builtin.List.listItems (.ref S); Builtin.List.listUpdate (.ref S) (fun _ => #[]); letGo old.toList.reverse; Builtin.List.listExtendWith (.ref S) (.ref it) .none) _ _ s
  refine wpAny_bind ?_
  unfold Builtin.List.listItems
  refine wpAny_bind (wpAny_seqItems hS rfl (wpAny_pure ?_))
  show wpAny _ _ (updateSeq S (fun _ => #[]) >>= fun _ => letGo (#[] : Array Value).toList.reverse >>= fun _ => Builtin.List.listExtendWith (.ref S) (.ref it) .none) _ _ s
  refine wpAny_bind (wpAny_updateSeq hS rfl ?_)
  have hS₂ := Heap.get?_update_self (Obj.mapSeq (fun _ => (#[] : Array Value))) hS rfl
  have oth : ∀ b o, b ≠ S → s.heap.get? b = some o → (s.heap.update S (Obj.mapSeq (fun _ => (#[] : Array Value)))).get? b = some o :=
    fun b o hb e => (Heap.get?_update_other _ _ (Ne.symm hb)).trans e
  refine wpAny_bind (wpAny_letGo ?_)
  have hit' : (s.heap.update S (Obj.mapSeq (fun _ => (#[] : Array Value)))).IsRevIter it l ((items.size : Int) - 1) := hit.at fun o e => oth it o (Ne.symm hSi) e
  have hl' : (s.heap.update S (Obj.mapSeq (fun _ => (#[] : Array Value)))).IsList l items := hl.at fun o e => oth l o (Ne.symm hSl) e
  refine extend_rev hh hit' hl' hne hn S .none _ hSi hSl hS₂ fun h' tk acc' c' hk hS' hacc => ?_
  exact hR h' tk acc' c' (fun b o hb hb2 e => hk b o hb hb2 (oth b o hb e)) hS' hacc
theorem call_list_rev {Q : Value → Shared → Prop} {it l : Addr} {items : Array Value} (hh : A.handled = none) (hit : s.heap.IsRevIter it l ((items.size : Int) - 1)) (hl : s.heap.IsList l items) (hne : l ≠ it) (hn : items.size ≤ sizeLine)
    (hQ : ∀ h' tk acc' c', (∀ b o, b ≠ it → s.heap.get? b = some o → h'.get? b = some o) →
      h'.get? s.heap.objs.size = some { cls := .type "list", dict := none, data := .seq acc' c', slots := #[] } → ItemsOf (fun i v => items[items.size - 1 - i]? = some v) acc' items.size → Q (.ref s.heap.objs.size) { s with heap := h', toks := tk }) :
    wpAny (model prog w) A (call (.type "list") [.ref it]) Q E s := by
  refine callType_codes (Q₁ := fun obj s₁ => obj = .ref s.heap.objs.size ∧ s₁ = { s with heap := s.heap.push { cls := .type "list", data := .seq #[] } }) F.called_list (F.typeCall_list_1 _) F.entry_list_init
    (code_list_new _ ⟨rfl, rfl⟩) fun obj s₁ h₁ => ?_
  obtain ⟨rfl, rfl⟩ := h₁
  have hS : (s.heap.push { cls := .type "list", data := .seq #[] }).get? s.heap.objs.size = some { cls := .type "list", data := .seq #[] } := Heap.get?_push_size _ rfl
  obtain ⟨oi, hoi, _⟩ := id hit
  obtain ⟨ol, hol, _⟩ := id hl
  refine ⟨⟨_, hS, rfl⟩, F.args_list_init_2 _ _, init_rev (A := A.in1) hh (hit.at fun o e => Heap.get?_push_of_some _ e) (hl.push _) hne hn _ (Nat.ne_of_gt (Heap.lt_size hoi)) (Nat.ne_of_gt (Heap.lt_size hol)) hS fun h' tk acc' c' hk hS' hacc => ?_⟩
  exact ⟨rfl, hQ h' tk acc' c' (fun b o hb e => hk b o (Nat.ne_of_lt (Heap.lt_size e)) hb (Heap.get?_push_of_some _ e)) hS' hacc⟩
end
theorem rev_items {items acc : Array Value} (h : ItemsOf (fun i v => items[items.size - 1 - i]? = some v) acc items.size) : acc = items.toList.reverse.toArray := by
  obtain ⟨h1, h2⟩ := h
  apply Array.ext
  · simp [h1]
  · intro i hi1 hi2
    have hi : i < items.size := by omega
    have e : items[items.size - 1 - i]? = some acc[i] := h2 i acc[i] (by simp [hi1])
    have e2 : items[items.size - 1 - i]'(by omega) = acc[i] := by
      have := Array.getElem?_eq_getElem (xs := items) (i := items.size - 1 - i) (by omega)
      rw [this] at e
      exact Option.some.inj e
    simp [← e2]
end FLx

namespace FL
open PySem PySem.Spec PyProof.Rows L2
section
variable {X : Cx} {W : WX} {a b c e : Expr} {Ea Eb Ec E : S → Res R} {pos p p2 pos2 : Pos}
/-! ### calls of built-ins -/
theorem de_callB1 {x : Str} {id : String} {r : List V → Hp → VK → Prop} {g : D → Option R} (hc : CallR X (.builtin id) r) (hg1 : Op1 X.K (fun v H Q => r [v] H Q) g) (hg : Gl X x) (hm : X.mg x = none) (hv : bootBuiltins x = some (.builtin id)) (ha : DE X W a Ea)
    (hn : x ≠ "__name__" := by decide) (hdb : (x == ("__debug__" : Str)) = false := by decide) (he : starEach (a :: []) X.env = (false, eval a X.env) :: starEach [] X.env := by rfl) : DE X W (.Call (.Name x p) [a] [] pos) (eOp1 g Ea) :=
  pe_weak (pe_callB hc hg hm hv (pa_cons ha pa_nil he) hn hdb he) fun _ _ _ h => post_op1 hg1 h
theorem de_callB2 {x : Str} {id : String} {r : List V → Hp → VK → Prop} {g : D → D → Option R} (hc : CallR X (.builtin id) r) (hg1 : Op2 X.K (fun v w H Q => r [v, w] H Q) g) (hg : Gl X x) (hm : X.mg x = none) (hv : bootBuiltins x = some (.builtin id)) (ha : DE X W a Ea) (hb : DE X W b Eb)
    (hn : x ≠ "__name__" := by decide) (hdb : (x == ("__debug__" : Str)) = false := by decide) (he : starEach (a :: [b]) X.env = (false, eval a X.env) :: starEach [b] X.env := by rfl) (he2 : starEach (b :: []) X.env = (false, eval b X.env) :: starEach [] X.env := by rfl)
    (hpl : (backTo pos (starEach [b] X.env)).any (·.1) = false := by rfl) : DE X W (.Call (.Name x p) [a, b] [] pos) (eOp2 g Ea Eb) :=
  pe_weak (pe_callB hc hg hm hv (pa_cons ha (pa_cons hb pa_nil he2) he) hn hdb he hpl) fun _ _ _ h => post_op2 hg1 h
theorem de_callT1 {x : Str} {T : String} {r : List V → Hp → VK → Prop} {g : D → Option R} (hc : CallR X (.type T) r) (hg1 : Op1 X.K (fun v H Q => r [v] H Q) g) (hg : Gl X x) (hm : X.mg x = none) (hv : bootBuiltins x = some (.type T)) (ha : DE X W a Ea)
    (hn : x ≠ "__name__" := by decide) (hdb : (x == ("__debug__" : Str)) = false := by decide) (he : starEach (a :: []) X.env = (false, eval a X.env) :: starEach [] X.env := by rfl) : DE X W (.Call (.Name x p) [a] [] pos) (eOp1 g Ea) :=
  pe_weak (pe_callTy hc hg hm hv (pa_cons ha pa_nil he) hn hdb he) fun _ _ _ h => post_op1 hg1 h
end
@[simp] def gLen : D → Option R
  | .list ds => some (.d (.int ds.length))
  | .tuple ds => some (.d (.int ds.length))
  | .str z => if z.length ≤ sizeLine then some (.d (.int z.length)) else none
  | _ => none
@[simp] def gAbs : D → Option R
  | .int i => some (.d (.int (if i < 0 then -i else i)))
  | _ => none
@[simp] def gToInt : D → Option R
  | .int i => some (.d (.int i))
  | .bool k => some (.d (.int (if k then 1 else 0)))
  | _ => none
@[simp] def gTuple : D → Option R
  | .list ds => some (.d (.tuple ds))
  | .tuple ds => some (.d (.tuple ds))
  | _ => none
@[simp] def gList : D → Option R
  | .list ds => some (.own ds)
  | .tuple ds => some (.own ds)
  | _ => none
@[simp] def gMax2 : D → D → Option R
  | .int i, .int j => some (.d (.int (if j > i then j else i)))
  | _, _ => none
@[simp] def gMin2 : D → D → Option R
  | .int i, .int j => some (.d (.int (if j < i then j else i)))
  | _, _ => none
@[simp] def gDivmod : D → D → Option R
  | .int i, .int j => if divOk i j = true then some (.d (.tuple [.int (i / j), .int (i % j)])) else none
  | _, _ => none
@[simp] def gListRev : D → Option R
  | .list ds => some (.own ds.reverse)
  | _ => none
/-- the ints of data -/
def intsOf : List D → Option (List Int)
  | [] => some []
  | .int i :: r => (intsOf r).map fun l => i :: l
  | _ :: _ => none
theorem intsOf_eq : ∀ {ds : List D} {ns : List Int}, intsOf ds = some ns → ds = ns.map PyData.int
  | [], ns, h => by cases h; rfl
  | .int i :: r, ns, h => by
    obtain ⟨l, e, rfl⟩ := Option.map_eq_some_iff.mp h
    rw [intsOf_eq e]; rfl
  | .none :: _, _, h => by cases h
  | .bool _ :: _, _, h => by cases h
  | .str _ :: _, _, h => by cases h
  | .list _ :: _, _, h => by cases h
  | .tuple _ :: _, _, h => by cases h
  | .dict _ :: _, _, h => by cases h
theorem intsOf_map (ns : List Int) : intsOf (ns.map PyData.int) = some ns := by
  induction ns with
  | nil => rfl
  | cons n ns ih => show (intsOf (ns.map PyData.int)).map _ = _; rw [ih]; rfl
theorem FzAll.ints {K : PySem.W.Frag} {H : Hp} : ∀ {ns : List Int} {vs : List V}, FzAll K H (ns.map PyData.int) vs → vs = ns.map V.int
  | [], _, h => h
  | n :: ns, _, h => by
    obtain ⟨x, r, e, h1, h2⟩ := h
    rw [e, show x = V.int n from h1, FzAll.ints h2]; rfl
def maxL : List Int → Option Int
  | [] => none
  | n :: ns => some (ns.foldl max n)
def minL : List Int → Option Int
  | [] => none
  | n :: ns => some (ns.foldl min n)
theorem foldl_max : ∀ (ns : List Int) (n m : Int), (m = n ∨ m ∈ ns) → n ≤ m → (∀ y ∈ ns, y ≤ m) → ns.foldl max n = m
  | [], n, m, h, h1, _ => by
    rcases h with h | h
    · exact h.symm
    · cases h
  | k :: ns, n, m, h, h1, h2 => by
    have hk := h2 k List.mem_cons_self
    refine foldl_max ns (max n k) m ?_ (by omega) fun y hy => h2 y (List.mem_cons_of_mem _ hy)
    rcases h with h | h
    · left; omega
    · rcases List.mem_cons.mp h with h | h
      · left; omega
      · exact .inr h
theorem foldl_min : ∀ (ns : List Int) (n m : Int), (m = n ∨ m ∈ ns) → m ≤ n → (∀ y ∈ ns, m ≤ y) → ns.foldl min n = m
  | [], n, m, h, h1, _ => by
    rcases h with h | h
    · exact h.symm
    · cases h
  | k :: ns, n, m, h, h1, h2 => by
    have hk := h2 k List.mem_cons_self
    refine foldl_min ns (min n k) m ?_ (by omega) fun y hy => h2 y (List.mem_cons_of_mem _ hy)
    rcases h with h | h
    · left; omega
    · rcases List.mem_cons.mp h with h | h
      · left; omega
      · exact .inr h
def gSum : D → Option R
  | .list ds => (intsOf ds).map fun ns => .d (.int ns.sum)
  | _ => none
def gMax : D → Option R
  | .list ds => (intsOf ds).bind fun ns => (maxL ns).map fun m => .d (.int m)
  | _ => none
def gMin : D → Option R
  | .list ds => (intsOf ds).bind fun ns => (minL ns).map fun m => .d (.int m)
  | _ => none
section
variable {X : Cx}
theorem gLen_ok {K : PySem.W.Frag} : Op1 K (fun v H Q => (∃ x n, [v] = [x] ∧ LenV K x H n ∧ Q (.int n) H)) gLen := by
  intro a va H Q res ha e q
  unfold gLen at e
  split at e
  · cases e
    obtain ⟨p, xs, rfl, h1, h2⟩ := view_lst ha
    exact ⟨_, _, rfl, .inl ⟨xs, .inl h1, h2.length⟩, q _ _ new_int⟩
  · cases e
    obtain ⟨p, xs, rfl, h1, h2⟩ := view_tup ha
    exact ⟨_, _, rfl, .inr ⟨xs, h1, h2.length⟩, q _ _ new_int⟩
  · obtain ⟨hc, e⟩ := if_some e
    subst e
    rw [view_str ha]
    exact ⟨_, _, rfl, ⟨hc, rfl⟩, q _ _ new_int⟩
  · cases e
theorem gAbs_ok {K : PySem.W.Frag} : Op1 K (fun v H Q => ∃ i, [v] = [V.int i] ∧ Q (.int (if i < 0 then -i else i)) H) gAbs := by
  intro a va H Q res ha e q
  unfold gAbs at e
  split at e
  · cases e
    exact ⟨_, by rw [view_int ha], q _ _ new_int⟩
  · cases e
theorem gToInt_ok {K : PySem.W.Frag} : Op1 K (fun v H Q => (∃ i, [v] = [V.int i] ∧ Q (.int i) H) ∨ ∃ k, [v] = [V.bl k] ∧ Q (.int (if k then 1 else 0)) H) gToInt := by
  intro a va H Q res ha e q
  unfold gToInt at e
  split at e
  · cases e
    exact .inl ⟨_, by rw [view_int ha], q _ _ new_int⟩
  · cases e
    exact .inr ⟨_, by rw [view_bool ha], q _ _ new_int⟩
  · cases e
theorem gTuple_ok {K : PySem.W.Frag} : Op1 K (fun v H Q => ∃ p ys, [v] = [V.ref p] ∧ ((SqL K H p ys ∧ ∀ l, H l = none → Q (.ref l) (upd H l (.tup ys))) ∨ (SqT K H p ys ∧ Q (.ref p) H))) gTuple := by
  intro a va H Q res ha e q
  unfold gTuple at e
  split at e
  · cases e
    obtain ⟨p, xs, rfl, h1, h2⟩ := view_lst ha
    exact ⟨p, xs, rfl, .inl ⟨.inl h1, fun l n => q _ _ (new_tup n h2)⟩⟩
  · cases e
    obtain ⟨p, xs, rfl, h1, h2⟩ := view_tup ha
    exact ⟨p, xs, rfl, .inr ⟨h1, q _ _ (old_d ⟨p, xs, rfl, h1, h2⟩)⟩⟩
  · cases e
theorem gList_ok {K : PySem.W.Frag} : Op1 K (fun v H Q => ∃ p ys, [v] = [V.ref p] ∧ (SqL K H p ys ∨ SqT K H p ys) ∧ ∀ l, H l = none → Q (.ref l) (upd H l (.lst ys))) gList := by
  intro a va H Q res ha e q
  unfold gList at e
  split at e
  · cases e
    obtain ⟨p, xs, rfl, h1, h2⟩ := view_lst ha
    exact ⟨p, xs, rfl, .inl (.inl h1), fun l n => q _ _ (new_lst n h2)⟩
  · cases e
    obtain ⟨p, xs, rfl, h1, h2⟩ := view_tup ha
    exact ⟨p, xs, rfl, .inr h1, fun l n => q _ _ (new_lst n h2)⟩
  · cases e
theorem gMax2_ok {K : PySem.W.Frag} : Op2 K (fun v w H Q => ∃ i j, [v, w] = [V.int i, V.int j] ∧ Q (.int (if j > i then j else i)) H) gMax2 := by
  intro a b va vb H Q res ha hb e q
  unfold gMax2 at e
  split at e
  · cases e
    exact ⟨_, _, by rw [view_int ha, view_int hb], q _ _ new_int⟩
  · cases e
theorem gMin2_ok {K : PySem.W.Frag} : Op2 K (fun v w H Q => ∃ i j, [v, w] = [V.int i, V.int j] ∧ Q (.int (if j < i then j else i)) H) gMin2 := by
  intro a b va vb H Q res ha hb e q
  unfold gMin2 at e
  split at e
  · cases e
    exact ⟨_, _, by rw [view_int ha, view_int hb], q _ _ new_int⟩
  · cases e
theorem call_divmodL : CallR X (.builtin "divmod") (fun xs H Q => ∃ i j, xs = [.int i, .int j] ∧ CDivW i j ∧ ∀ p, H p = none → Q (.ref p) (upd H p (.tup [.int (i / j), .int (i % j)]))) := by
  intro pins s σ H xs us Q I r h
  obtain ⟨i, j, rfl, ⟨h1, h2⟩, q⟩ := h
  obtain ⟨u, w', rfl, ⟨t, rfl⟩, ⟨t', rfl⟩⟩ := vals2 r
  refine divmod_int (by omega) ?_ (.inl (PyProof.noPylong_of_log2 h2))
  rw [Int.fdiv_eq_ediv_of_nonneg i (by omega), Int.fmod_eq_emod_of_nonneg i (by omega)]
  have hn : H s.heap.objs.size = none := I.hok.fresh (Nat.le_refl _)
  refine ⟨.ref s.heap.objs.size, _, ?_, rfl, q _ hn⟩
  refine I.laid (fun b o e => Heap.get?_push_of_some _ e) (Nat.le_refl _) ⟨by simp only [List.length_cons, List.length_nil]; rw [sizeLine_eq]; decide, [.int (i / j) s.toks, .int (i % j) (s.toks + 1)], .cons ⟨_, rfl⟩ (.cons ⟨_, rfl⟩ .nil), ?_⟩
  exact ⟨_, Heap.get?_push_size s.heap rfl, rfl, 0, rfl⟩
theorem divOk.ok {i j : Int} (h : divOk i j = true) : CDivW i j := by
  rw [divOk, Bool.and_eq_true] at h
  exact ⟨of_decide_eq_true h.1, of_decide_eq_true h.2⟩
theorem gDivmod_ok {K : PySem.W.Frag} : Op2 K (fun v w H Q => ∃ i j, [v, w] = [V.int i, V.int j] ∧ CDivW i j ∧ ∀ p, H p = none → Q (.ref p) (upd H p (.tup [.int (i / j), .int (i % j)]))) gDivmod := by
  intro a b va vb H Q res ha hb e q
  unfold gDivmod at e
  split at e
  · obtain ⟨hc, e⟩ := if_some e
    subst e
    refine ⟨_, _, by rw [view_int ha, view_int hb], divOk.ok hc, fun p n => q _ _ (new_tup n ?_)⟩
    exact FzAll.cons rfl (FzAll.cons rfl FzAll.nil)
  · cases e
theorem gSum_ok {K : PySem.W.Frag} : Op1 K (fun v H Q => rSum K [v] H Q) gSum := by
  intro a va H Q res ha e q
  unfold gSum at e
  split at e
  · obtain ⟨ns, e1, rfl⟩ := Option.map_eq_some_iff.mp e
    obtain ⟨p, xs, rfl, h1, h2⟩ := view_lst ha
    rw [intsOf_eq e1] at h2
    rw [h2.ints] at h1
    exact ⟨p, ns, rfl, .inl h1, q _ _ new_int⟩
  · cases e
theorem gMax_ok {K : PySem.W.Frag} : Op1 K (fun v H Q => rMax K [v] H Q) gMax := by
  intro a va H Q res ha e q
  unfold gMax at e
  split at e
  · obtain ⟨ns, e1, e⟩ := Option.bind_eq_some_iff.mp e
    obtain ⟨p, xs, rfl, h1, h2⟩ := view_lst ha
    rw [intsOf_eq e1] at h2
    rw [h2.ints] at h1
    cases ns with
    | nil => cases e
    | cons n ns =>
      cases e
      refine ⟨p, n :: ns, rfl, .inl h1, by simp, fun m hm hb => ?_⟩
      have := foldl_max ns n m (List.mem_cons.mp hm) (hb n List.mem_cons_self) fun y hy => hb y (List.mem_cons_of_mem _ hy)
      rw [this] at q
      exact q _ _ new_int
  · cases e
theorem gMin_ok {K : PySem.W.Frag} : Op1 K (fun v H Q => rMin K [v] H Q) gMin := by
  intro a va H Q res ha e q
  unfold gMin at e
  split at e
  · obtain ⟨ns, e1, e⟩ := Option.bind_eq_some_iff.mp e
    obtain ⟨p, xs, rfl, h1, h2⟩ := view_lst ha
    rw [intsOf_eq e1] at h2
    rw [h2.ints] at h1
    cases ns with
    | nil => cases e
    | cons n ns =>
      cases e
      refine ⟨p, n :: ns, rfl, .inl h1, by simp, fun m hm hb => ?_⟩
      have := foldl_min ns n m (List.mem_cons.mp hm) (hb n List.mem_cons_self) fun y hy => hb y (List.mem_cons_of_mem _ hy)
      rw [this] at q
      exact q _ _ new_int
  · cases e
end
section
variable {X : Cx} {W : WX} {a b c e : Expr} {Ea Eb Ec E : S → Res R} {pos p p2 pos2 : Pos}
theorem boot_abs' : bootBuiltins "abs" = some (.builtin "abs") := by decide +kernel
theorem boot_max' : bootBuiltins "max" = some (.builtin "max") := by decide +kernel
theorem boot_min' : bootBuiltins "min" = some (.builtin "min") := by decide +kernel
theorem boot_sum' : bootBuiltins "sum" = some (.builtin "sum") := by decide +kernel
theorem boot_divmod' : bootBuiltins "divmod" = some (.builtin "divmod") := by decide +kernel
theorem boot_isi' : bootBuiltins "isinstance" = some (.builtin "isinstance") := by decide +kernel
theorem boot_int' : bootBuiltins "int" = some (.type "int") := by decide +kernel
theorem boot_tuple' : bootBuiltins "tuple" = some (.type "tuple") := by decide +kernel
theorem boot_list' : bootBuiltins "list" = some (.type "list") := by decide +kernel
theorem boot_bool' : bootBuiltins "bool" = some (.type "bool") := by decide +kernel
theorem boot_str' : bootBuiltins "str" = some (.type "str") := by decide +kernel
theorem boot_dict' : bootBuiltins "dict" = some (.type "dict") := by decide +kernel
theorem boot_rev' : bootBuiltins "reversed" = some (.type "reversed") := by decide +kernel
theorem de_len (hm : X.mg "len" = none) (ha : DE X W a Ea) (hg : Gl X "len" := by rfl) (he : starEach (a :: []) X.env = (false, eval a X.env) :: starEach [] X.env := by rfl) : DE X W (.Call (.Name "len" p) [a] [] pos) (eOp1 gLen Ea) := de_callB1 call_len gLen_ok hg hm PySem.boot_len ha (he := he)
theorem de_abs (hm : X.mg "abs" = none) (ha : DE X W a Ea) (hg : Gl X "abs" := by rfl) (he : starEach (a :: []) X.env = (false, eval a X.env) :: starEach [] X.env := by rfl) : DE X W (.Call (.Name "abs" p) [a] [] pos) (eOp1 gAbs Ea) := de_callB1 call_abs gAbs_ok hg hm boot_abs' ha (he := he)
theorem de_toInt (hm : X.mg "int" = none) (ha : DE X W a Ea) (hg : Gl X "int" := by rfl) (he : starEach (a :: []) X.env = (false, eval a X.env) :: starEach [] X.env := by rfl) : DE X W (.Call (.Name "int" p) [a] [] pos) (eOp1 gToInt Ea) := de_callT1 call_int1 gToInt_ok hg hm boot_int' ha (he := he)
theorem de_tuple (hm : X.mg "tuple" = none) (ha : DE X W a Ea) (hg : Gl X "tuple" := by rfl) (he : starEach (a :: []) X.env = (false, eval a X.env) :: starEach [] X.env := by rfl) : DE X W (.Call (.Name "tuple" p) [a] [] pos) (eOp1 gTuple Ea) := de_callT1 call_tuple_of gTuple_ok hg hm boot_tuple' ha (he := he)
theorem de_list (hm : X.mg "list" = none) (ha : DE X W a Ea) (hg : Gl X "list" := by rfl) (he : starEach (a :: []) X.env = (false, eval a X.env) :: starEach [] X.env := by rfl) : DE X W (.Call (.Name "list" p) [a] [] pos) (eOp1 gList Ea) := de_callT1 call_list_of gList_ok hg hm boot_list' ha (he := he)
theorem de_max2 (hc : X.calm = true) (hm : X.mg "max" = none) (ha : DE X W a Ea) (hb : DE X W b Eb) (hg : Gl X "max" := by rfl) (he : starEach (a :: [b]) X.env = (false, eval a X.env) :: starEach [b] X.env := by rfl) (he2 : starEach (b :: []) X.env = (false, eval b X.env) :: starEach [] X.env := by rfl)
    (hpl : (backTo pos (starEach [b] X.env)).any (·.1) = false := by rfl) : DE X W (.Call (.Name "max" p) [a, b] [] pos) (eOp2 gMax2 Ea Eb) := de_callB2 (call_max2 hc) gMax2_ok hg hm boot_max' ha hb (he := he) (he2 := he2) (hpl := hpl)
theorem de_min2 (hc : X.calm = true) (hm : X.mg "min" = none) (ha : DE X W a Ea) (hb : DE X W b Eb) (hg : Gl X "min" := by rfl) (he : starEach (a :: [b]) X.env = (false, eval a X.env) :: starEach [b] X.env := by rfl) (he2 : starEach (b :: []) X.env = (false, eval b X.env) :: starEach [] X.env := by rfl)
    (hpl : (backTo pos (starEach [b] X.env)).any (·.1) = false := by rfl) : DE X W (.Call (.Name "min" p) [a, b] [] pos) (eOp2 gMin2 Ea Eb) := de_callB2 (call_min2 hc) gMin2_ok hg hm boot_min' ha hb (he := he) (he2 := he2) (hpl := hpl)
theorem de_divmod (hm : X.mg "divmod" = none) (ha : DE X W a Ea) (hb : DE X W b Eb) (hg : Gl X "divmod" := by rfl) (he : starEach (a :: [b]) X.env = (false, eval a X.env) :: starEach [b] X.env := by rfl) (he2 : starEach (b :: []) X.env = (false, eval b X.env) :: starEach [] X.env := by rfl)
    (hpl : (backTo pos (starEach [b] X.env)).any (·.1) = false := by rfl) : DE X W (.Call (.Name "divmod" p) [a, b] [] pos) (eOp2 gDivmod Ea Eb) := de_callB2 call_divmodL gDivmod_ok hg hm boot_divmod' ha hb (he := he) (he2 := he2) (hpl := hpl)
theorem de_sum (hc : X.calm = true) (hm : X.mg "sum" = none) (ha : DE X W a Ea) (hg : Gl X "sum" := by rfl) (he : starEach (a :: []) X.env = (false, eval a X.env) :: starEach [] X.env := by rfl) : DE X W (.Call (.Name "sum" p) [a] [] pos) (eOp1 gSum Ea) := de_callB1 (cr_sum hc) gSum_ok hg hm boot_sum' ha (he := he)
theorem de_max (hc : X.calm = true) (hm : X.mg "max" = none) (ha : DE X W a Ea) (hg : Gl X "max" := by rfl) (he : starEach (a :: []) X.env = (false, eval a X.env) :: starEach [] X.env := by rfl) : DE X W (.Call (.Name "max" p) [a] [] pos) (eOp1 gMax Ea) := de_callB1 (cr_max hc) gMax_ok hg hm boot_max' ha (he := he)
theorem de_min (hc : X.calm = true) (hm : X.mg "min" = none) (ha : DE X W a Ea) (hg : Gl X "min" := by rfl) (he : starEach (a :: []) X.env = (false, eval a X.env) :: starEach [] X.env := by rfl) : DE X W (.Call (.Name "min" p) [a] [] pos) (eOp1 gMin Ea) := de_callB1 (cr_min hc) gMin_ok hg hm boot_min' ha (he := he)

/-! ### isinstance(x, T), T a built-in type -/
/-- x is of the type T -/
@[simp] def isiD (T : String) : D → Option Bool
  | .none => some false
  | .bool _ => some (T == "bool" || T == "int")
  | .int _ => some (T == "int")
  | .str _ => some (T == "str")
  | .list _ => some (T == "list")
  | .tuple _ => some (T == "tuple")
  | .dict _ => none
@[simp] def gIsi (T : String) (x : D) : Option R := (isiD T x).map fun k => .d (.bool k)
/-- the name of a type of data -/
def tyD : D → String
  | .none => "NoneType"
  | .bool _ => "bool"
  | .int _ => "int"
  | .str _ => "str"
  | .list _ => "list"
  | .tuple _ => "tuple"
  | .dict _ => "dict"
theorem tyD_ok {K : PySem.W.Frag} {H : Hp} {d : D} {v : V} (z : ∀ kvs, d ≠ .dict kvs) (h : View K H d v) : TyX K H v (.type (tyD d)) := by
  cases d with
  | none => rw [show v = _ from h]; exact .base .non
  | bool b => rw [show v = _ from h]; exact .base (.bl b)
  | int i => rw [show v = _ from h]; exact .base (.int i)
  | str x => rw [show v = _ from h]; exact .base (.str x)
  | list ds =>
    obtain ⟨p, xs, rfl, h1, _⟩ := view_lst h
    rcases h1 with h1 | ⟨o, h1⟩
    · exact .base (.lst h1)
    · exact .base (.frz h1)
  | tuple ds =>
    obtain ⟨p, xs, rfl, h1, _⟩ := view_tup h
    rcases h1 with (h1 | ⟨o, h1⟩) | ⟨o, its, n, h1, h2, _⟩
    · exact .base (.tup h1)
    · exact .fTuple h1
    · exact .kTuple h1 h2
  | dict _ => exact absurd rfl (z _)
theorem kit_int (K : PySem.W.Frag) (d : D) (k : Bool) (e : isiD "int" d = some k) : PySem.W.kitOne K (.type (tyD d)) (.type "int") = some k := by
  cases d <;> first | (cases e; done) | (cases e; rfl)
theorem kit_bool (K : PySem.W.Frag) (d : D) (k : Bool) (e : isiD "bool" d = some k) : PySem.W.kitOne K (.type (tyD d)) (.type "bool") = some k := by
  cases d <;> first | (cases e; done) | (cases e; rfl)
theorem kit_str (K : PySem.W.Frag) (d : D) (k : Bool) (e : isiD "str" d = some k) : PySem.W.kitOne K (.type (tyD d)) (.type "str") = some k := by
  cases d <;> first | (cases e; done) | (cases e; rfl)
theorem kit_list (K : PySem.W.Frag) (d : D) (k : Bool) (e : isiD "list" d = some k) : PySem.W.kitOne K (.type (tyD d)) (.type "list") = some k := by
  cases d <;> first | (cases e; done) | (cases e; rfl)
theorem kit_tuple (K : PySem.W.Frag) (d : D) (k : Bool) (e : isiD "tuple" d = some k) : PySem.W.kitOne K (.type (tyD d)) (.type "tuple") = some k := by
  cases d <;> first | (cases e; done) | (cases e; rfl)
theorem gIsi_ok {K : PySem.W.Frag} {T : String} (ht : ∀ d k, isiD T d = some k → PySem.W.kitOne K (.type (tyD d)) (.type T) = some k) : Op1 K (fun v H Q => rIsi K [v, .ty T] H Q) (gIsi T) := by
  intro a va H Q res ha e q
  obtain ⟨k, e1, rfl⟩ := Option.map_eq_some_iff.mp e
  exact ⟨va, .ty T, _, _, k, rfl, .ty T, tyD_ok (fun kvs z => by rw [z] at e1; cases e1) ha, ht a k e1, q _ _ new_bl⟩
theorem de_isi {T : String} {y : Str} {pt : Pos} (hm : X.mg "isinstance" = none) (hmT : X.mg y = none) (hv : bootBuiltins y = some (.type T)) (ht : ∀ d k, isiD T d = some k → PySem.W.kitOne X.K (.type (tyD d)) (.type T) = some k) (ha : DE X W a Ea) (hg : Gl X "isinstance" := by rfl) (hgT : Gl X y := by rfl)
    (hn : y ≠ "__name__" := by decide) (hdb : (y == ("__debug__" : Str)) = false := by decide) (he : starEach (a :: [.Name y pt]) X.env = (false, eval a X.env) :: starEach [.Name y pt] X.env := by rfl) (he2 : starEach (.Name y pt :: []) X.env = (false, eval (.Name y pt) X.env) :: starEach [] X.env := by rfl)
    (hpl : (backTo pos (starEach [.Name y pt] X.env)).any (·.1) = false := by rfl) : DE X W (.Call (.Name "isinstance" p) [a, .Name y pt] [] pos) (eOp1 (gIsi T) Ea) :=
  pe_weak (pe_callB call_isi hg hm boot_isi' (pa_cons ha (pa_cons (pe_bltn (v := .ty T) hgT hmT hv rfl hn hdb) pa_nil he2) he) (he := he) (hpl := hpl)) fun _ _ _ h => post_op1 (gIsi_ok ht) h
theorem de_isInt {pt : Pos} (hm : X.mg "isinstance" = none) (hmT : X.mg "int" = none) (ha : DE X W a Ea) (hg : Gl X "isinstance" := by rfl) (hgT : Gl X "int" := by rfl) (he : starEach (a :: [.Name "int" pt]) X.env = (false, eval a X.env) :: starEach [.Name "int" pt] X.env := by rfl) : DE X W (.Call (.Name "isinstance" p) [a, .Name "int" pt] [] pos) (eOp1 (gIsi "int") Ea) := de_isi hm hmT boot_int' (kit_int _) ha hg hgT (he := he)
theorem de_isBool {pt : Pos} (hm : X.mg "isinstance" = none) (hmT : X.mg "bool" = none) (ha : DE X W a Ea) (hg : Gl X "isinstance" := by rfl) (hgT : Gl X "bool" := by rfl) (he : starEach (a :: [.Name "bool" pt]) X.env = (false, eval a X.env) :: starEach [.Name "bool" pt] X.env := by rfl) : DE X W (.Call (.Name "isinstance" p) [a, .Name "bool" pt] [] pos) (eOp1 (gIsi "bool") Ea) := de_isi hm hmT boot_bool' (kit_bool _) ha hg hgT (he := he)
theorem de_isStr {pt : Pos} (hm : X.mg "isinstance" = none) (hmT : X.mg "str" = none) (ha : DE X W a Ea) (hg : Gl X "isinstance" := by rfl) (hgT : Gl X "str" := by rfl) (he : starEach (a :: [.Name "str" pt]) X.env = (false, eval a X.env) :: starEach [.Name "str" pt] X.env := by rfl) : DE X W (.Call (.Name "isinstance" p) [a, .Name "str" pt] [] pos) (eOp1 (gIsi "str") Ea) := de_isi hm hmT boot_str' (kit_str _) ha hg hgT (he := he)
theorem de_isList {pt : Pos} (hm : X.mg "isinstance" = none) (hmT : X.mg "list" = none) (ha : DE X W a Ea) (hg : Gl X "isinstance" := by rfl) (hgT : Gl X "list" := by rfl) (he : starEach (a :: [.Name "list" pt]) X.env = (false, eval a X.env) :: starEach [.Name "list" pt] X.env := by rfl) : DE X W (.Call (.Name "isinstance" p) [a, .Name "list" pt] [] pos) (eOp1 (gIsi "list") Ea) := de_isi hm hmT boot_list' (kit_list _) ha hg hgT (he := he)
theorem de_isTuple {pt : Pos} (hm : X.mg "isinstance" = none) (hmT : X.mg "tuple" = none) (ha : DE X W a Ea) (hg : Gl X "isinstance" := by rfl) (hgT : Gl X "tuple" := by rfl) (he : starEach (a :: [.Name "tuple" pt]) X.env = (false, eval a X.env) :: starEach [.Name "tuple" pt] X.env := by rfl) : DE X W (.Call (.Name "isinstance" p) [a, .Name "tuple" pt] [] pos) (eOp1 (gIsi "tuple") Ea) := de_isi hm hmT boot_tuple' (kit_tuple _) ha hg hgT (he := he)

/-! ### list(reversed(xs)) -/
def tListRev (ta : TE) : TE := fun σ H Q => ta σ H fun x H1 => ∃ l xs, x = .ref l ∧ Rd H1 l (.lst xs) ∧ ∀ q, H1 q = none → Q (.ref q) (upd H1 q (.lst xs.reverse))
theorem vals_reverse : ∀ {xs : List V} {us : List Value}, Vals xs us → Vals xs.reverse us.reverse
  | _, _, .nil => .nil
  | _, _, .cons r t => by
    rw [List.reverse_cons, List.reverse_cons]
    exact (vals_reverse t).append (.cons r .nil)
theorem pe_listRev {ta : TE} (hc : X.calm = true) (hg : Gl X "list") (hm : X.mg "list" = none) (hg2 : Gl X "reversed") (hm2 : X.mg "reversed" = none) (ha : PE X a ta)
    (he : starEach (.Call (.Name "reversed" p2) [a] [] pos2 :: []) X.env = (false, eval (.Call (.Name "reversed" p2) [a] [] pos2) X.env) :: starEach [] X.env := by rfl) (he2 : starEach (a :: []) X.env = (false, eval a X.env) :: starEach [] X.env := by rfl) :
    PE X (.Call (.Name "list" p) [.Call (.Name "reversed" p2) [a] [] pos2] [] pos) (tListRev ta) := by
  refine ⟨fun pins s σ H Q I h => ?_⟩
  refine wpAny_Call_Name_kw (ld_blt I hg hm boot_list' ?_)
  refine PyProof.Rows.callWith_type1 ?_ he
  rw [he]
  refine Calls.spliced_cons ?_
  refine wpAny_Call_Name_kw (ld_blt I hg2 hm2 boot_rev' ?_)
  refine PyProof.Rows.callWith_type1 ?_ he2
  rw [he2]
  refine Calls.spliced_cons (thn (ha.run pins s σ H _ I h) fun v s1 ⟨x, H1, I1, r1, l, xs, e, hl, q⟩ => ?_)
  subst e
  cases r1
  refine Calls.spliced_nil ?_
  obtain ⟨z, its, n, rv, hlen, eo⟩ := Inv.lstR I1 hl
  have hL : s1.heap.IsList l its.toArray := ⟨_, eo, rfl, n, rfl⟩
  refine call_reversed_list hL ?_
  refine Calls.spliced_nil ?_
  have hlt : l < s1.heap.objs.size := Heap.lt_size eo
  have I2 : Inv X pins σ H1 { s1 with heap := s1.heap.push (revObj l ((its.toArray.size : Int) - 1)) } := I1.kept (t' := s1.toks) fun b o e => Heap.get?_push_of_some _ e
  refine FLx.call_list_rev (s := { s1 with heap := s1.heap.push (revObj l ((its.toArray.size : Int) - 1)) }) (I1.ok.hd hc) ⟨_, Heap.get?_push_size _ rfl, rfl, rfl⟩ (hL.push _) (Nat.ne_of_lt hlt) (by rw [List.size_toArray, ← hlen]; exact z) fun h' tk acc c' hk hS hacc => ?_
  have eacc := FLx.rev_items hacc
  have kp : ∀ b o, s1.heap.get? b = some o → h'.get? b = some o := fun b o e => hk b o (Nat.ne_of_lt (Heap.lt_size e)) (Heap.get?_push_of_some _ e)
  have fr : H1 (s1.heap.push (revObj l ((its.toArray.size : Int) - 1))).objs.size = none := I1.hok.fresh (by rw [Heap.size_push]; exact Nat.le_succ _)
  refine ⟨.ref _, _, I1.laid (t' := tk) (h' := h') (o := .lst xs.reverse) kp (by rw [Heap.size_push]; exact Nat.le_succ _) ?_, rfl, q _ fr⟩
  refine ⟨by rw [List.length_reverse]; exact z, its.reverse, c', vals_reverse rv, ?_⟩
  rw [hS, eacc]
theorem de_listRev (hc : X.calm = true) (hm : X.mg "list" = none) (hm2 : X.mg "reversed" = none) (ha : DE X W a Ea) (hg : Gl X "list" := by rfl) (hg2 : Gl X "reversed" := by rfl)
    (he : starEach (.Call (.Name "reversed" p2) [a] [] pos2 :: []) X.env = (false, eval (.Call (.Name "reversed" p2) [a] [] pos2) X.env) :: starEach [] X.env := by rfl) (he2 : starEach (a :: []) X.env = (false, eval a X.env) :: starEach [] X.env := by rfl) :
    DE X W (.Call (.Name "list" p) [.Call (.Name "reversed" p2) [a] [] pos2] [] pos) (eOp1 gListRev Ea) :=
  pe_weak (pe_listRev hc hg hm hg2 hm2 ha he he2) fun σv H Q h => post_op1 (r := fun x H1 Q => ∃ l xs, x = .ref l ∧ Rd H1 l (.lst xs) ∧ ∀ q, H1 q = none → Q (.ref q) (upd H1 q (.lst xs.reverse))) (fun a va H Q res hv e q => by
    unfold gListRev at e
    split at e
    · cases e
      obtain ⟨p, xs, rfl, h1, h2⟩ := view_lst hv
      exact ⟨p, xs, rfl, h1, fun l n => q _ _ (new_lst n h2.reverse)⟩
    · cases e) h
end
end FL

set_option Elab.async false
set_option linter.all false
set_option maxRecDepth 100000
set_option maxHeartbeats 2000000
/-! FL: statements. -/
namespace FL
open PySem PySem.Spec PyProof.Rows L2

/-- from a state to a later one, over statements -/
structure Later (K : PySem.W.Frag) (H : Hp) (σ : S) (σv : L2.St) (H' : Hp) (σ' : S) (σv' : L2.St) : Prop where
  keep : Keep (OwnM σ σv) H H'
  rel : SRel K H' σ' σv'
  own : ∀ i a, At σ' σv' i .own a → (∃ j, At σ σv j .own a) ∨ H a = none
  npar : ∀ i t a, t ≠ Tag.own → At σ' σv' i t a → At σ σv i t a
  par : ∀ (i : Nat) (ds : List D), σ[i]? = some (some (.l .par ds)) → σv'[i]? = σv[i]? ∧ ∃ ds', σ'[i]? = some (some (.l .par ds'))
  lck : ∀ (i : Nat) (ds : List D), σ[i]? = some (some (.l .lck ds)) → σv'[i]? = σv[i]? ∧ σ'[i]? = some (some (.l .lck ds))
section
variable {K : PySem.W.Frag} {mg : Str → Option Value} {W : WX} {H H1 H2 H' : Hp} {σ σ1 σ2 σ' : S} {σv σv1 σv2 σv' : L2.St}
theorem Later.refl (r : SRel K H σ σv) : Later K H σ σv H σ σv := ⟨Keep.refl _ _, r, fun i a h => .inl ⟨i, h⟩, fun _ _ _ _ h => h, fun _ ds e => ⟨rfl, ds, e⟩, fun _ _ e => ⟨rfl, e⟩⟩
theorem Later.ownM (l : Later K H σ σv H' σ' σv') {a : Addr} (h : OwnM σ' σv' a) : OwnM σ σv a ∨ H a = none := by
  obtain ⟨i, t, nt, h⟩ := h
  by_cases ht : t = .own
  · subst ht
    rcases l.own i a h with ⟨j, q⟩ | q
    · exact .inl ⟨j, .own, by decide, q⟩
    · exact .inr q
  · exact .inl ⟨i, t, nt, l.npar i t a ht h⟩
theorem Later.trans (a : Later K H σ σv H1 σ1 σv1) (b : Later K H1 σ1 σv1 H2 σ2 σv2) : Later K H σ σv H2 σ2 σv2 where
  keep := a.keep.trans b.keep fun x o e z => (a.ownM z).elim (fun q => q) fun q => by rw [e] at q; cases q
  rel := b.rel
  own := fun i p h => by
    rcases b.own i p h with ⟨j, q⟩ | q
    · exact a.own j p q
    · exact .inr (a.keep.gone p q)
  npar := fun i t p n h => a.npar i t p n (b.npar i t p n h)
  par := fun i ds e => by
    obtain ⟨e1, ds1, e2⟩ := a.par i ds e
    obtain ⟨e3, ds2, e4⟩ := b.par i ds1 e2
    exact ⟨e3.trans e1, ds2, e4⟩
  lck := fun i ds e => by
    obtain ⟨e1, e2⟩ := a.lck i ds e
    obtain ⟨e3, e4⟩ := b.lck i ds e2
    exact ⟨e3.trans e1, e4⟩
theorem Step.toLater (s : Step K H σ σv H' σ') : Later K H σ σv H' σ' σv where
  keep := s.keep
  rel := s.rel
  own := fun i a h => .inl ⟨i, s.sub.at h⟩
  npar := fun i t a _ h => s.sub.at h
  par := fun i ds e => by
    have := s.sub i
    rw [e] at this
    exact ⟨rfl, this⟩
  lck := fun i ds e => by
    have := s.sub i
    rw [e] at this
    exact ⟨rfl, this⟩
theorem Later.imm (r : SRel K H σ σv) (a : Later K H σ σv H1 σ1 σv1) : Imm H H1 := r.imm a.keep
end

/-- how a statement ends -/
inductive Out where
  | nx (σ : S)
  | brk (σ : S)
  | cnt (σ : S)
  | ret (r : R) (σ : S)
  | exc (c : ECls) (σ : S)
  | bad
def RetRel (K : PySem.W.Frag) (H : Hp) (σ : S) (σv : L2.St) (H' : Hp) : R → V → Prop
  | .d x, v => Fz K H' x v
  | .own ds, v => ∃ a vs, v = .ref a ∧ H' a = some (.lst vs) ∧ FzAll K H' ds vs ∧ ((∃ j, At σ σv j .own a) ∨ H a = none)
  | .slot _, _ => False
def PostS (K : PySem.W.Frag) (mg : Str → Option Value) (W : WX) (H : Hp) (σ : S) (σv : L2.St) (D : Ends) : Out → Prop
  | .nx σ' => ∀ σv' H', Later K H σ σv H' σ' σv' → D.nx σv' H'
  | .brk σ' => ∀ σv' H', Later K H σ σv H' σ' σv' → D.bk σv' H'
  | .cnt σ' => ∀ σv' H', Later K H σ σv H' σ' σv' → D.ct σv' H'
  | .ret r σ' => ∀ v σv' H', Later K H σ σv H' σ' σv' → RetRel K H σ σv H' r v → D.rt v H'
  | .exc c σ' => ∀ cls σv' H', ECl mg c cls → Later K H σ σv H' σ' σv' → W cls none σv' H'
  | .bad => False
def rdS (K : PySem.W.Frag) (mg : Str → Option Value) (W : WX) (B : S → Out) : TS := fun D σv H => ∃ σ, SRel K H σ σv ∧ PostS K mg W H σ σv D (B σ)
abbrev DS (X : Cx) (W : WX) (st : Stmt) (B : S → Out) : Prop := PS X st (rdS X.K X.mg W B)
abbrev DSs (X : Cx) (W : WX) (st : List Stmt) (B : S → Out) : Prop := PSs X st (rdS X.K X.mg W B)
section
variable {K : PySem.W.Frag} {mg : Str → Option Value} {W : WX} {H H1 H2 H' : Hp} {σ σ1 σ2 σ' : S} {σv σv1 σv2 σv' : L2.St} {D D' : Ends}
theorem RetRel.back {r : R} {v : V} (l : Later K H σ σv H1 σ1 σv1) (h : RetRel K H1 σ1 σv1 H' r v) : RetRel K H σ σv H' r v := by
  cases r with
  | d x => exact h
  | own ds =>
    obtain ⟨a, vs, e, h1, h2, h3⟩ := h
    refine ⟨a, vs, e, h1, h2, ?_⟩
    rcases h3 with ⟨j, q⟩ | q
    · exact l.own j a q
    · exact .inr (l.keep.gone a q)
  | slot i => exact h
/-- the same end, told from a later state -/
theorem PostS.later {o : Out} (l : Later K H σ σv H1 σ1 σv1) (h : PostS K mg W H σ σv D o) : PostS K mg W H1 σ1 σv1 D o := by
  cases o with
  | nx σ' => exact fun σv' H' q => h σv' H' (l.trans q)
  | brk σ' => exact fun σv' H' q => h σv' H' (l.trans q)
  | cnt σ' => exact fun σv' H' q => h σv' H' (l.trans q)
  | ret r σ' => exact fun v σv' H' q rr => h v σv' H' (l.trans q) (rr.back l)
  | exc c σ' => exact fun cls σv' H' e q => h cls σv' H' e (l.trans q)
  | bad => exact h
theorem PostS.exc_of {α β : Type} {Rel : Hp → Hp → S → L2.St → α → β → Prop} {Q : β → Hp → Prop} {c : ECls} (h : PostS K mg W H σ σv D (.exc c σ')) : Post K mg W Rel H σ σv Q (.exc c σ') := fun cls H' e s => h cls σv H' e s.toLater
end

/-! ### plain statements -/
@[simp] def sNx (σ : S) : Out := .nx σ
@[simp] def sBrk (σ : S) : Out := .brk σ
@[simp] def sCnt (σ : S) : Out := .cnt σ
@[simp] def sSeq (A B : S → Out) (σ : S) : Out := match A σ with
  | .nx σ1 => B σ1
  | o => o
@[simp] def sDrop (E : S → Res R) (σ : S) : Out := match E σ with
  | .ok _ σ1 => .nx σ1
  | .exc c σ1 => .exc c σ1
  | .bad => .bad
@[simp] def sIf (T : S → Res Bool) (A B : S → Out) (σ : S) : Out := match T σ with
  | .ok b σ1 => if b = true then A σ1 else B σ1
  | .exc c σ1 => .exc c σ1
  | .bad => .bad
@[simp] def setSlot (i : Nat) (c : C) (σ : S) : Option S := match σ[i]? with
  | some (some (.l .par _)) => none
  | some (some (.l .lck _)) => none
  | _ => some (σ.set i (some c))
@[simp] def cOf : R → C
  | .d x => .d x
  | .own ds => .l .own ds
  | .slot _ => .d .none
@[simp] def sSet (i : Nat) (E : S → Res R) (σ : S) : Out := match eMov E σ with
  | .ok r σ1 => (match setSlot i (cOf r) σ1 with
    | some σ2 => .nx σ2
    | none => .bad)
  | .exc c σ1 => .exc c σ1
  | .bad => .bad
/-- a result is given out: a slot's own list leaves its slot -/
@[simp] def sRet (E : S → Res R) (σ : S) : Out := match E σ with
  | .ok (.slot i) σ1 => (match σ1[i]? with
    | some (some (.d x)) => .ret (.d x) σ1
    | some (some (.l .own ds)) => .ret (.own ds) σ1
    | _ => .bad)
  | .ok r σ1 => .ret r σ1
  | .exc c σ1 => .exc c σ1
  | .bad => .bad
@[simp] def sRetN (σ : S) : Out := .ret (.d .none) σ
section
variable {X : Cx} {W : WX} {a b c e : Expr} {E F : S → Res R} {T : S → Res Bool} {A B : S → Out} {st : Stmt} {rest sts : List Stmt} {pos : Pos}
theorem dss_nil : DSs X W [] sNx := pss_weak pss_nil fun D σv H ⟨σ, s, h⟩ => h σv H (Later.refl s)
theorem dss_cons (h1 : DS X W st A) (h2 : DSs X W rest B) : DSs X W (st :: rest) (sSeq A B) := pss_weak (pss_cons h1 h2) fun D σv H ⟨σ, s, h⟩ => by
  refine ⟨σ, s, ?_⟩
  unfold sSeq at h
  cases ea : A σ with
  | nx σ1 =>
    rw [ea] at h
    exact fun σv' H' l => ⟨σ1, l.rel, PostS.later l h⟩
  | brk σ1 => rw [ea] at h; exact h
  | cnt σ1 => rw [ea] at h; exact h
  | ret r σ1 => rw [ea] at h; exact h
  | exc c σ1 => rw [ea] at h; exact h
  | bad => rw [ea] at h; exact h
theorem dss_one (h1 : DS X W st A) : DSs X W [st] A := pss_one h1
theorem ds_pass : DS X W (.Pass pos) sNx := ps_weak ps_pass fun D σv H ⟨σ, s, h⟩ => h σv H (Later.refl s)
theorem ds_break : DS X W (.Break pos) sBrk := ps_weak ps_break fun D σv H ⟨σ, s, h⟩ => h σv H (Later.refl s)
theorem ds_cont : DS X W (.Continue pos) sCnt := ps_weak ps_continue fun D σv H ⟨σ, s, h⟩ => h σv H (Later.refl s)
theorem ds_doc {x : Str} {j : Nat} {pos' : Pos} : DS X W (.Expr (.Constant (.str x) j pos) pos') sNx := ps_weak ps_doc fun D σv H ⟨σ, s, h⟩ => h σv H (Later.refl s)
theorem ds_expr (he : DE X W e E) (hs : swapsWith e none pos.line X.env = pure false := by rfl) : DS X W (.Expr e pos) (sDrop E) := ps_weak (ps_expr he hs) fun D σv H ⟨σ, s, h⟩ => by
  refine ⟨σ, s, ?_⟩
  unfold sDrop at h
  cases ea : E σ with
  | ok r σ1 => rw [ea] at h; exact fun v H' st _ => h σv H' st.toLater
  | exc c σ1 => rw [ea] at h; exact PostS.exc_of h
  | bad => rw [ea] at h; exact h
theorem ds_if (hc : DT X W c T) {as bs : List Stmt} (ha : DSs X W as A) (hb : DSs X W bs B) : DS X W (.If c as bs pos) (sIf T A B) := ps_weak (ps_if hc ha hb) fun D σv H ⟨σ, s, h⟩ => by
  refine ⟨σ, s, ?_⟩
  unfold sIf at h
  cases ea : T σ with
  | ok r σ1 =>
    rw [ea] at h
    intro k H' st e
    subst e
    cases r with
    | true => exact ⟨σ1, st.rel, PostS.later st.toLater h⟩
    | false => exact ⟨σ1, st.rel, PostS.later st.toLater h⟩
  | exc c σ1 => rw [ea] at h; exact PostS.exc_of h
  | bad => rw [ea] at h; exact h

/-! ### stores -/
/-- what is stored is data, or a list that no slot has -/
def NewC (K : PySem.W.Frag) (H : Hp) (σ : S) (σv : L2.St) (H' : Hp) : C → V → Prop
  | .d x, v => Fz K H' x v
  | .l .own ds, v => ∃ a vs, v = .ref a ∧ H a = none ∧ H' a = some (.lst vs) ∧ FzAll K H' ds vs
  | _, _ => False
theorem setSlot_eq {i : Nat} {c : C} {σ σ2 : S} (h : setSlot i c σ = some σ2) : σ2 = σ.set i (some c) ∧ ∀ t ds, σ[i]? = some (some (.l t ds)) → t = .own := by
  unfold setSlot at h
  split at h
  · cases h
  · cases h
  · rename_i n1 n2
    cases h
    refine ⟨rfl, fun t ds e => ?_⟩
    cases t with
    | own => rfl
    | par => exact absurd e (n1 ds)
    | lck => exact absurd e (n2 ds)
theorem get_setv {σv : L2.St} {i : Nat} {v : Option V} {k : Option V} (e : σv[i]? = some k) : (σv.set i v)[i]? = some v := by
  rw [List.getElem?_set_self]
  exact (List.getElem?_eq_some_iff.mp e).1
theorem Later.store {K : PySem.W.Frag} {H H1 : Hp} {σ σ1 : S} {σv σv1 : L2.St} {i : Nat} {c : C} {v : V} (s0 : SRel K H σ σv) (l : Later K H σ σv H1 σ1 σv1) (nl : ∀ t ds, σ1[i]? = some (some (.l t ds)) → t = .own)
    (hc : NewC K H σ σv H1 c v) (fresh : ∀ ds a, c = .l .own ds → v = .ref a → ∀ j t, ¬ At σ1 σv1 j t a) : Later K H σ σv H1 (σ1.set i (some c)) (σv1.set i (some v)) := by
  have notw : ∀ t ds, t ≠ Tag.own → c ≠ .l t ds := fun t ds n z => by
    subst z
    cases t with
    | own => exact n rfl
    | par => exact hc
    | lck => exact hc
  have atS : ∀ j t a, At (σ1.set i (some c)) (σv1.set i (some v)) j t a → (j = i ∧ v = .ref a ∧ ∃ ds, c = .l t ds) ∨ (j ≠ i ∧ At σ1 σv1 j t a) := fun j t a ⟨⟨ds, e⟩, ev⟩ => by
    by_cases hj : j = i
    · subst hj
      have hl : j < σ1.length := by
        have := (List.getElem?_eq_some_iff.mp e).1
        rw [List.length_set] at this
        exact this
      rw [List.getElem?_set_self hl] at e
      have hlv : j < σv1.length := by rw [← l.rel.len]; exact hl
      rw [List.getElem?_set_self hlv] at ev
      injection e with e
      injection e with e
      injection ev with ev
      injection ev with ev
      exact .inl ⟨rfl, ev, ds, e⟩
    · rw [List.getElem?_set_ne (Ne.symm hj)] at e ev
      exact .inr ⟨hj, ⟨ds, e⟩, ev⟩
  refine ⟨l.keep, ⟨by rw [List.length_set, List.length_set]; exact l.rel.len, fun j k e => ?_, fun j k t u a hj hk => ?_, l.rel.tab⟩, fun j a h => ?_, fun j t a n h => ?_, fun j ds e => ?_, fun j ds e => ?_⟩
  · by_cases hj : j = i
    · subst hj
      have hl : j < σ1.length := by
        have := (List.getElem?_eq_some_iff.mp e).1
        rw [List.length_set] at this
        exact this
      rw [List.getElem?_set_self hl] at e
      injection e with e
      injection e with e
      subst e
      refine ⟨v, by rw [List.getElem?_set_self (by rw [← l.rel.len]; exact hl)], ?_⟩
      cases c with
      | d x => exact hc
      | l t ds =>
        cases t with
        | own =>
          obtain ⟨a, vs, e, _, h1, h2⟩ := hc
          exact ⟨a, vs, e, h1, h2⟩
        | par => exact False.elim hc
        | lck => exact False.elim hc
    · rw [List.getElem?_set_ne (Ne.symm hj)] at e
      rw [List.getElem?_set_ne (Ne.symm hj)]
      exact l.rel.val j k e
  · rcases atS j t a hj with ⟨e1, e2, ds, e3⟩ | ⟨n1, h1⟩
    · rcases atS k u a hk with ⟨e4, _, _, _⟩ | ⟨n2, h2⟩
      · rw [e1, e4]
      · have ht : t = .own := Classical.byContradiction fun n => notw t ds n e3
        subst ht
        exact absurd h2 (fresh ds a e3 e2 k u)
    · rcases atS k u a hk with ⟨e4, e5, ds, e6⟩ | ⟨n2, h2⟩
      · have ht : u = .own := Classical.byContradiction fun n => notw u ds n e6
        subst ht
        exact absurd h1 (fresh ds a e6 e5 j t)
      · exact l.rel.apart j k t u a h1 h2
  · rcases atS j .own a h with ⟨_, e2, ds, e3⟩ | ⟨_, h1⟩
    · subst e3 e2
      obtain ⟨b, vs, e, h0, _⟩ := hc
      cases e
      exact .inr h0
    · exact l.own j a h1
  · rcases atS j t a h with ⟨_, _, ds, e3⟩ | ⟨_, h1⟩
    · exact absurd e3 (notw t ds n)
    · exact l.npar j t a n h1
  · obtain ⟨e1, ds', e2⟩ := l.par j ds e
    have hj : j ≠ i := fun z => by
      subst z
      have := nl _ _ e2
      cases this
    exact ⟨by rw [List.getElem?_set_ne (Ne.symm hj)]; exact e1, ds', by rw [List.getElem?_set_ne (Ne.symm hj)]; exact e2⟩
  · obtain ⟨e1, e2⟩ := l.lck j ds e
    have hj : j ≠ i := fun z => by
      subst z
      have := nl _ _ e2
      cases this
    exact ⟨by rw [List.getElem?_set_ne (Ne.symm hj)]; exact e1, by rw [List.getElem?_set_ne (Ne.symm hj)]; exact e2⟩
/-- a result is stored -/
theorem store_res {K : PySem.W.Frag} {H H1 : Hp} {σ σ1 σ2 : S} {σv : L2.St} {i : Nat} {r : R} {v : V} (s0 : SRel K H σ σv) (st : Step K H σ σv H1 σ1) (rr : RRel K H H1 σ1 σv r v) (ns : ∀ j, r ≠ .slot j) (h : setSlot i (cOf r) σ1 = some σ2) :
    Later K H σ σv H1 σ2 (σv.set i (some v)) := by
  obtain ⟨rfl, nl⟩ := setSlot_eq h
  refine Later.store s0 st.toLater nl ?_ fun ds a e ev j t hat => ?_
  · cases r with
    | d x => exact rr
    | own ds => exact rr
    | slot j => exact absurd rfl (ns j)
  · cases r with
    | d x => cases e
    | own ds' =>
      obtain ⟨b, vs, e1, h0, _⟩ := rr
      rw [ev] at e1
      cases e1
      obtain ⟨vs0, _, q0, _⟩ := s0.at_lst (st.sub.at hat)
      rw [h0] at q0
      cases q0
    | slot j => exact absurd rfl (ns j)
theorem eMov_slot {E : S → Res R} {σ σ1 : S} {r : R} (h : eMov E σ = .ok r σ1) : ∀ j, r ≠ .slot j := by
  unfold eMov at h
  obtain ⟨r0, σ0, e, h⟩ := Res.bind_ok h
  intro j z
  subst z
  cases r0 with
  | own ds => cases h
  | d x =>
    obtain ⟨_, _, _, h⟩ := Res.bind_ok h
    cases h
  | slot k =>
    obtain ⟨_, _, _, h⟩ := Res.bind_ok h
    cases h
theorem ds_set {i : Nat} {x : Str} {pos' : Pos} (hN : X.N.Nodup) (he : DE X W e E) (hi : X.N[i]? = some x := by rfl) (hx : Loc X.env.scope x := by first | exact Or.inl rfl | exact Or.inr rfl) (hs : swapsWith e (some (.Name x pos')) pos.line X.env = pure false := by rfl)
    (hf : X.fn x = true ∨ X.env.scope.names.lookup x = some .local := by first | exact .inl rfl | exact .inr rfl) : DS X W (.Assign [.Name x pos'] e pos) (sSet i E) := ps_weak (ps_set hN hi hx (de_mov he) hs hf) fun D σv H ⟨σ, s, h⟩ => by
  refine ⟨σ, s, ?_⟩
  unfold sSet at h
  cases ea : eMov E σ with
  | ok r σ1 =>
    rw [ea] at h
    intro v H' st rr
    simp only at h
    split at h
    · rename_i σ2 e2
      exact h _ _ (store_res s st rr (eMov_slot ea) e2)
    · exact False.elim h
  | exc c σ1 => rw [ea] at h; exact PostS.exc_of h
  | bad => rw [ea] at h; exact h
theorem ds_ret (he : DE X W e E) : DS X W (.Return (some e) pos) (sRet E) := ps_weak (ps_ret he) fun D σv H ⟨σ, s, h⟩ => by
  refine ⟨σ, s, ?_⟩
  unfold sRet at h
  cases ea : E σ with
  | ok r σ1 =>
    rw [ea] at h
    intro v H' st rr
    cases r with
    | d x => exact h v σv H' st.toLater rr
    | own ds =>
      obtain ⟨p, vs, e, h0, h1, h2⟩ := rr
      exact h v σv H' st.toLater ⟨p, vs, e, h1, h2, .inr h0⟩
    | slot i =>
      obtain ⟨e1, k, e2⟩ := rr
      obtain ⟨v', e3, hc⟩ := st.rel.val i k e2
      rw [e1] at e3
      have ev : v = v' := by injection e3 with q; injection q
      subst ev
      simp only [e2] at h
      cases k with
      | d x => exact h v σv H' st.toLater hc
      | l t ds =>
        cases t with
        | own =>
          obtain ⟨p, vs, rfl, h1, h2⟩ := hc
          exact h _ σv H' st.toLater ⟨p, vs, rfl, h1, h2, .inl ⟨i, st.sub.at ⟨⟨ds, e2⟩, e1⟩⟩⟩
        | par => exact False.elim h
        | lck => exact False.elim h
  | exc c σ1 => rw [ea] at h; exact PostS.exc_of h
  | bad => rw [ea] at h; exact h
theorem ds_retN : DS X W (.Return none pos) sRetN := ps_weak ps_retN fun D σv H ⟨σ, s, h⟩ => h .non σv H (Later.refl s) rfl
end
end FL

set_option Elab.async false
set_option linter.all false
set_option maxRecDepth 100000
set_option maxHeartbeats 2000000
/-! FL: lists that change, targets. -/
namespace FL
open PySem PySem.Spec PyProof.Rows L2
section
variable {K : PySem.W.Frag} {mg : Str → Option Value} {W : WX} {H H1 H2 H' : Hp} {σ σ1 σ2 σ' : S} {σv σv1 σv2 σv' : L2.St} {D D' : Ends}
theorem imm_mut {a : Addr} {vs vs' : List V} (e : H1 a = some (.lst vs)) : Imm H1 (upd H1 a (.lst vs')) :=
  ⟨fun b xs q => by rw [upd_ne (fun z => by rw [z, e] at q; cases q)]; exact q, fun b o' u q => by rw [upd_ne (fun z => by rw [z, e] at q; cases q)]; exact q, fun b φ q => by rw [upd_ne (fun z => by rw [z, e] at q; cases q)]; exact q⟩
/-- the list of slot i changes -/
theorem Step.mut {i : Nat} {t : Tag} {a : Addr} {vs vs' : List V} {ds ds' : List FL.D} (st : Step K H σ σv H1 σ1) (e : σ1[i]? = some (some (.l t ds))) (nt : t ≠ .lck) (ev : σv[i]? = some (some (.ref a))) (h1 : H1 a = some (.lst vs)) (h2 : FzAll K H1 ds' vs') :
    Step K H σ σv (upd H1 a (.lst vs')) (σ1.set i (some (.l t ds'))) := by
  have m := imm_mut (vs' := vs') h1
  have hat : At σ1 σv i t a := ⟨⟨ds, e⟩, ev⟩
  have hown : OwnM σ σv a := ⟨i, t, nt, st.sub.at hat⟩
  refine ⟨⟨fun b x eb nb => ?_, fun b eb => ?_⟩, ⟨by rw [List.length_set]; exact st.rel.len, fun j c ej => ?_, fun j k t' u p hj hk => ?_, fun p hp => tab_upd (st.rel.tab p hp) h1 fun _ z => by cases z⟩, st.sub.trans fun j => ?_⟩
  · have hb : b ≠ a := fun z => nb (z ▸ hown)
    rw [upd_ne hb]
    exact st.keep.kept b x eb nb
  · by_cases hb : b = a
    · subst hb
      rw [upd_same] at eb; cases eb
    · rw [upd_ne hb] at eb
      exact st.keep.gone b eb
  · by_cases hj : j = i
    · subst hj
      rw [get_set e] at ej
      cases ej
      exact ⟨_, ev, a, vs', rfl, upd_same, FzAll.mono m ds' h2⟩
    · rw [List.getElem?_set_ne (Ne.symm hj)] at ej
      obtain ⟨v, e1, hc⟩ := st.rel.val j c ej
      refine ⟨v, e1, CRel.mono m (fun t' ds' p ec ep vs' q => ?_) hc⟩
      subst ec ep
      have hp : p ≠ a := fun z => hj (st.rel.apart j i t' t a ⟨⟨ds', ej⟩, z ▸ e1⟩ hat)
      rw [upd_ne hp]
      exact q
  · have back : ∀ j t' p, At (σ1.set i (some (.l t ds'))) σv j t' p → At σ1 σv j t' p := fun j t' p ⟨⟨es, q⟩, q2⟩ => by
      by_cases hj : j = i
      · subst hj
        rw [get_set e] at q
        cases q
        exact ⟨⟨ds, e⟩, q2⟩
      · rw [List.getElem?_set_ne (Ne.symm hj)] at q
        exact ⟨⟨es, q⟩, q2⟩
    exact st.rel.apart j k t' u p (back _ _ _ hj) (back _ _ _ hk)
  · by_cases hj : j = i
    · subst hj
      rw [e, get_set e]
      cases t with
      | own => exact .inl ⟨_, rfl⟩
      | par => exact ⟨_, rfl⟩
      | lck => exact absurd rfl nt
    · rw [List.getElem?_set_ne (Ne.symm hj)]
      exact SubC.refl _
/-- the value of a slot -/
theorem slot_at {i : Nat} {v : V} {t : Tag} {ds : List FL.D} (s : SRel K H σ σv) (e1 : σv[i]? = some (some v)) (e2 : σ[i]? = some (some (.l t ds))) : ∃ a vs, v = .ref a ∧ H a = some (.lst vs) ∧ FzAll K H ds vs := by
  obtain ⟨v', q, hc⟩ := s.val i _ e2
  rw [e1] at q
  have : v = v' := by injection q with q; injection q
  subst this
  exact hc
theorem PostS.ofRes {E : S → Res R} {Rel : Hp → Hp → S → L2.St → R → V → Prop} (h : PostS K mg W H σ σv D (sDrop E σ)) : Post K mg W Rel H σ σv (fun _ H' => D.nx σv H') (E σ) := by
  unfold sDrop at h
  cases ea : E σ with
  | ok a σ1 => rw [ea] at h; exact fun b H' st _ => h σv H' st.toLater
  | exc c σ1 => rw [ea] at h; exact PostS.exc_of h
  | bad => rw [ea] at h; exact h
end

/-! ### methods that change a list -/
def MOp (K : PySem.W.Frag) (r : V → List V → Hp → VK → Prop) (g : List D → List D → Option (D × List D)) : Prop :=
  ∀ (a : Addr) (vs xs : List V) (es ds : List D) (H : Hp) (Q : VK) (res : D) (es' : List D), H a = some (.lst vs) → FzAll K H es vs → FzAll K H ds xs → g es ds = some (res, es') →
    (∀ v' vs', Fz K H res v' → FzAll K H es' vs' → Q v' (upd H a (.lst vs'))) → r (.ref a) xs H Q
@[simp] def isL (σ : S) (i : Nat) : Bool := match σ[i]? with
  | some (some (.l _ _)) => true
  | _ => false
theorem isL_of {σ : S} {i : Nat} (h : isL σ i = true) : ∃ t ds, σ[i]? = some (some (.l t ds)) := by
  unfold isL at h
  split at h
  · exact ⟨_, _, by assumption⟩
  · cases h
@[simp] def eMut (g : List D → List D → Option (D × List D)) (E0 : S → Res R) (A : S → Res (List D)) (σ : S) : Res R := (E0 σ).bind fun r σ1 => match r with
  | .slot i => if isL σ1 i = true then (A σ1).bind fun ds σ2 => (match σ2[i]? with
    | some (some (.l t es)) => if t = .lck then .bad else (match g es ds with
      | some (res, es') => .ok (.d res) (σ2.set i (some (.l t es')))
      | none => .bad)
    | _ => .bad) else .bad
  | _ => .bad
@[simp] def gAppend : List D → List D → Option (D × List D)
  | es, [d] => if es.length < sizeLine then some (.none, es ++ [d]) else none
  | _, _ => none
@[simp] def gPop : List D → List D → Option (D × List D)
  | es, [] => (es[es.length - 1]?).map fun d => (d, es.dropLast)
  | _, _ => none
@[simp] def gPopAt : List D → List D → Option (D × List D)
  | es, [.int i] => if -(2 ^ 63) ≤ i ∧ i < 2 ^ 63 then (seqIndex? i es.length).bind fun k => (es[k]?).map fun d => (d, es.eraseIdx k) else none
  | _, _ => none
@[simp] def gRevM : List D → List D → Option (D × List D)
  | es, [] => some (.none, es.reverse)
  | _, _ => none
theorem FzAll.eraseIdx {K : PySem.W.Frag} {H : Hp} : ∀ {ds : List D} {vs : List V} (k : Nat), FzAll K H ds vs → FzAll K H (ds.eraseIdx k) (vs.eraseIdx k)
  | [], _, k, h => by rw [show _ = [] from h]; exact FzAll.nil
  | d :: ds, _, 0, h => by
    obtain ⟨x, r, e, h1, h2⟩ := h
    subst e
    exact h2
  | d :: ds, _, k + 1, h => by
    obtain ⟨x, r, e, h1, h2⟩ := h
    subst e
    exact FzAll.cons h1 (FzAll.eraseIdx k h2)
theorem FzAll.dropLast {K : PySem.W.Frag} {H : Hp} {ds : List D} {vs : List V} (h : FzAll K H ds vs) : FzAll K H ds.dropLast vs.dropLast := by
  rw [List.dropLast_eq_take, List.dropLast_eq_take, h.length]
  exact h.take _
theorem FzAll.one {K : PySem.W.Frag} {H : Hp} {d : D} {vs : List V} (h : FzAll K H [d] vs) : ∃ v, vs = [v] ∧ Fz K H d v := by
  obtain ⟨x, r, e, h1, h2⟩ := h
  rw [show r = [] from h2] at e
  exact ⟨x, e, h1⟩
theorem FzAll.two {K : PySem.W.Frag} {H : Hp} {c d : D} {vs : List V} (h : FzAll K H [c, d] vs) : ∃ u v, vs = [u, v] ∧ Fz K H c u ∧ Fz K H d v := by
  obtain ⟨x, r, e, h1, h2⟩ := h
  obtain ⟨y, e2, h3⟩ := FzAll.one h2
  exact ⟨x, y, by rw [e, e2], h1, h3⟩
theorem if_some' {α : Type} {c : Prop} [Decidable c] {x : Option α} {y : α} (h : (if c then x else none) = some y) : c ∧ x = some y := by
  by_cases hc : c
  · rw [if_pos hc] at h; exact ⟨hc, h⟩
  · rw [if_neg hc] at h; cases h
theorem m_append {K : PySem.W.Frag} : MOp K rAppend gAppend := by
  intro a vs xs es ds H Q res es' h1 h2 h3 e q
  unfold gAppend at e
  split at e
  · obtain ⟨hc, e⟩ := if_some e
    cases e
    obtain ⟨v, rfl, hv⟩ := h3.one
    exact ⟨a, vs, v, rfl, rfl, h1, by rw [← h2.length]; exact hc, q _ _ rfl (h2.append (FzAll.cons hv FzAll.nil))⟩
  · cases e
theorem m_pop {K : PySem.W.Frag} : MOp K rPop gPop := by
  intro a vs xs es ds H Q res es' h1 h2 h3 e q
  unfold gPop at e
  split at e
  · obtain ⟨d, e1, e2⟩ := Option.map_eq_some_iff.mp e
    cases e2
    obtain ⟨v, q1, q2⟩ := h2.get e1
    rw [h2.length] at q1
    exact ⟨a, vs, v, rfl, h3, h1, q1, q _ _ q2 h2.dropLast⟩
  · cases e
theorem m_popAt {K : PySem.W.Frag} : MOp K rPopAt gPopAt := by
  intro a vs xs es ds H Q res es' h1 h2 h3 e q
  unfold gPopAt at e
  split at e
  · obtain ⟨hc, e⟩ := if_some' e
    obtain ⟨k, e0, e⟩ := Option.bind_eq_some_iff.mp e
    obtain ⟨d, e1, e2⟩ := Option.map_eq_some_iff.mp e
    cases e2
    obtain ⟨v, q1, q2⟩ := h2.get e1
    obtain ⟨w, rfl, hv⟩ := h3.one
    rw [h2.length] at e0
    exact ⟨a, vs, _, k, v, rfl, by rw [show w = V.int _ from hv], h1, hc.1, hc.2, e0, q1, q _ _ q2 (h2.eraseIdx k)⟩
  · cases e
theorem m_reverse {K : PySem.W.Frag} : MOp K rReverse gRevM := by
  intro a vs xs es ds H Q res es' h1 h2 h3 e q
  unfold gRevM at e
  split at e
  · cases e
    exact ⟨a, vs, rfl, h3, h1, q _ _ rfl h2.reverse⟩
  · cases e
section
variable {X : Cx} {W : WX} {a b c e o : Expr} {es : List Expr} {Ea Eb Ec E E0 Ei : S → Res R} {A : S → Res (List D)} {pos p p2 pos2 apos cpos : Pos} {name : Str} {T id : String} {r : V → List V → Hp → VK → Prop} {g : List D → List D → Option (D × List D)}
theorem post_mut {K : PySem.W.Frag} {mg : Str → Option Value} (hg : MOp K r g) {σv : L2.St} {H : Hp} {Q : VK} (h : rd K mg W (eMut g E0 A) σv H Q) : rd K mg W E0 σv H fun x H1 => tyV K "list" x H1 ∧ rdA K mg W A σv H1 fun xs H2 => r x xs H2 Q := by
  obtain ⟨σ, s, h⟩ := h
  refine ⟨σ, s, ?_⟩
  unfold eMut at h
  cases ea : E0 σ with
  | bad => rw [ea] at h; exact False.elim h
  | exc c σ1 => rw [ea] at h; exact h
  | ok r σ1 =>
    rw [ea] at h
    intro v H1 st rr
    cases r with
    | d x => exact False.elim h
    | own ds => exact False.elim h
    | slot i =>
      obtain ⟨e1, c0, ec0⟩ := rr
      simp only [Res.bind] at h
      split at h
      · rename_i hl
        obtain ⟨t0, es0, e0⟩ := isL_of hl
        obtain ⟨p, vs0, rfl, q, _⟩ := slot_at st.rel e1 e0
        refine ⟨.inl ⟨rfl, vs0, .inl (.inl q)⟩, σ1, st.rel, ?_⟩
        cases eb : A σ1 with
        | bad => rw [eb] at h; exact False.elim h
        | exc c σ2 => rw [eb] at h; exact Post.exc_later h st
        | ok ds σ2 =>
          rw [eb] at h
          intro xs H2 st2 hx
          simp only at h
          split at h
          · rename_i t es e2
            split at h
            · exact False.elim h
            · rename_i nt
              split at h
              · rename_i res es' eg
                obtain ⟨p', vs, ep, q1, q2⟩ := slot_at st2.rel e1 e2
                cases ep
                refine hg p vs xs es ds H2 Q res es' q1 q2 hx eg fun v' vs' hv hvs => ?_
                exact h _ _ ((st.trans st2).mut e2 nt e1 q1 hvs) (Fz.mono (imm_mut q1) _ hv)
              · exact False.elim h
          · exact False.elim h
      · exact False.elim h
theorem de_mut (pa : PlainAttrs "list") (slot : Slot "list" name id) (hty : typeOf (.builtin id) = pure (.type "method_descriptor")) (hm : MtR X id r) (hg : MOp X.K r g) (ho : DE X W o E0) (ha : DA X W (e :: es) A)
    (hbase : attributeBase o name X.env (eval o X.env) = eval o X.env := by rfl)
    (hfew : ((backTo cpos (starEach (e :: es) X.env)).all (fun x => !x.1) && (backToKw cpos (keywordEach [] X.env)).all (fun x => x.1.isSome)
      && decide ((e :: es).length + ([] : List Keyword).length + (if ([] : List Keyword).isEmpty then 0 else 1) < 30)) = true := by rfl)
    (hline : (apos.endLine == cpos.line) = true := by rfl) (hs : starEach (e :: es) X.env = (false, eval e X.env) :: starEach es X.env := by rfl) (hplain : (backTo cpos (starEach es X.env)).any (·.1) = false := by rfl) :
    DE X W (.Call (.Attribute o name apos) (e :: es) [] cpos) (eMut g E0 A) := pe_weak (pe_bm pa slot hty hm ho ha hbase hfew hline hs hplain) fun _ _ _ h => post_mut hg h
theorem de_mut0 (pa : PlainAttrs "list") (slot : Slot "list" name id) (hty : typeOf (.builtin id) = pure (.type "method_descriptor")) (hm : MtR X id r) (hg : MOp X.K r g) (ho : DE X W o E0)
    (hbase : attributeBase o name X.env (eval o X.env) = eval o X.env := by rfl) (hline : (apos.endLine == cpos.line) = true := by rfl) : DE X W (.Call (.Attribute o name apos) [] [] cpos) (eMut g E0 aNil) :=
  pe_weak (pe_bm0 pa slot hty hm ho hbase hline) fun σv H Q h => by
    obtain ⟨σ, s, h⟩ := post_mut hg h
    refine ⟨σ, s, ?_⟩
    cases ea : E0 σ with
    | bad => rw [ea] at h; exact h
    | exc c σ1 => rw [ea] at h; exact h
    | ok r σ1 =>
      rw [ea] at h
      intro v H1 st rr
      obtain ⟨h1, σ2, s2, h2⟩ := h v H1 st rr
      exact ⟨h1, h2 [] H1 (Step.refl s2) FzAll.nil⟩
theorem de_append (ho : DE X W o E0) (ha : DA X W [e] A)
    (hbase : attributeBase o "append" X.env (eval o X.env) = eval o X.env := by rfl)
    (hfew : ((backTo cpos (starEach [e] X.env)).all (fun x => !x.1) && (backToKw cpos (keywordEach [] X.env)).all (fun x => x.1.isSome)
      && decide ([e].length + ([] : List Keyword).length + (if ([] : List Keyword).isEmpty then 0 else 1) < 30)) = true := by rfl)
    (hline : (apos.endLine == cpos.line) = true := by rfl) (hs : starEach [e] X.env = (false, eval e X.env) :: starEach [] X.env := by rfl) (hplain : (backTo cpos (starEach [] X.env)).any (·.1) = false := by rfl) :
    DE X W (.Call (.Attribute o "append" apos) [e] [] cpos) (eMut gAppend E0 A) := de_mut PySem.F.plainAttrs_list PySem.F.slot_list_append PySem.F.type_list_append mt_append m_append ho ha hbase hfew hline hs hplain
theorem de_pop (ho : DE X W o E0) (hbase : attributeBase o "pop" X.env (eval o X.env) = eval o X.env := by rfl) (hline : (apos.endLine == cpos.line) = true := by rfl) : DE X W (.Call (.Attribute o "pop" apos) [] [] cpos) (eMut gPop E0 aNil) :=
  de_mut0 PySem.F.plainAttrs_list PySem.F.slot_list_pop PySem.F.type_list_pop mt_pop m_pop ho hbase hline
theorem de_popAt (ho : DE X W o E0) (ha : DA X W [e] A)
    (hbase : attributeBase o "pop" X.env (eval o X.env) = eval o X.env := by rfl)
    (hfew : ((backTo cpos (starEach [e] X.env)).all (fun x => !x.1) && (backToKw cpos (keywordEach [] X.env)).all (fun x => x.1.isSome)
      && decide ([e].length + ([] : List Keyword).length + (if ([] : List Keyword).isEmpty then 0 else 1) < 30)) = true := by rfl)
    (hline : (apos.endLine == cpos.line) = true := by rfl) (hs : starEach [e] X.env = (false, eval e X.env) :: starEach [] X.env := by rfl) (hplain : (backTo cpos (starEach [] X.env)).any (·.1) = false := by rfl) :
    DE X W (.Call (.Attribute o "pop" apos) [e] [] cpos) (eMut gPopAt E0 A) := de_mut PySem.F.plainAttrs_list PySem.F.slot_list_pop PySem.F.type_list_pop mt_popAt m_popAt ho ha hbase hfew hline hs hplain

/-! ### x[i] = e -/
@[simp] def eSetIx (E0 Ei E : S → Res R) (σ : S) : Res R := (E σ).bind fun r σ1 => (toD r σ1).bind fun d σ2 => (E0 σ2).bind fun r0 σ3 => match r0 with
  | .slot i => (Ei σ3).bind fun ri σ4 => (match view σ4 ri, σ4[i]? with
    | some (.int k), some (some (.l t es)) => if t = .lck then .bad else (match ixN es.length k with
      | some j => .ok (.d .none) (σ4.set i (some (.l t (es.set j d))))
      | none => .bad)
    | _, _ => .bad)
  | _ => .bad
@[simp] def sSetIx (E0 Ei E : S → Res R) : S → Out := sDrop (eSetIx E0 Ei E)
theorem ds_setIx {tpos : Pos} (he : DE X W e E) (ho : DE X W o E0) (hi : DE X W c Ei)
    (ha : ∀ v, assign (.Subscript o c tpos) X.env v = (do
      let ov ← holding [v] (eval o X.env)
      let iv ← holding [v, ov] (eval c X.env)
      standAt tpos
      holding [v, ov, iv] (setItem ov iv v)
      release [v, ov, iv] []) := by intro _; rfl) (hs : swapsWithSole [.Subscript o c tpos] e pos.line X.env = pure false := by rfl) (hw : swappedStores [.Subscript o c tpos] e X.env = pure none := by rfl)
    (h1 : (assignEach [.Subscript o c tpos] X.env).map (·.2) = [assign (.Subscript o c tpos) X.env] := by rfl) : DS X W (.Assign [.Subscript o c tpos] e pos) (sSetIx E0 Ei E) := ps_weak (ps_asg (de_frz he) (pg_sub ho hi set_list ha) hs hw h1) fun Dd σv H ⟨σ, s, h⟩ => by
  have h := PostS.ofRes (Rel := RRel X.K) (E := eSetIx E0 Ei E) h
  refine ⟨σ, s, ?_⟩
  unfold eSetIx at h
  unfold eFrz
  cases ea : E σ with
  | bad => rw [ea] at h; exact False.elim h
  | exc c σ1 => rw [ea] at h; exact h
  | ok r σ1 =>
    rw [ea] at h
    simp only [Res.bind] at h ⊢
    rcases toD_cases r σ1 with ⟨d, σ2, ed⟩ | ed
    · rw [ed] at h ⊢
      simp only at h ⊢
      intro v H1 st rr
      refine ⟨σ2, st.rel, ?_⟩
      cases eb : E0 σ2 with
      | bad => rw [eb] at h; exact False.elim h
      | exc c σ3 => rw [eb] at h; exact Post.exc_later h st
      | ok r0 σ3 =>
        rw [eb] at h
        intro v0 H2 st2 rr2
        have st12 := st.trans st2
        cases r0 with
        | d x => exact False.elim h
        | own ds => exact False.elim h
        | slot i =>
          obtain ⟨e1, _, _⟩ := rr2
          simp only at h
          refine ⟨σ3, st12.rel, ?_⟩
          cases ec : Ei σ3 with
          | bad => rw [ec] at h; exact False.elim h
          | exc c σ4 => rw [ec] at h; exact Post.exc_later h st12
          | ok ri σ4 =>
            rw [ec] at h
            intro vi H3 st3 rr3
            have st13 := st12.trans st3
            simp only at h
            split at h
            · rename_i k t es ei e2
              split at h
              · exact False.elim h
              · rename_i nt
                split at h
                · rename_i j ej
                  obtain ⟨p, vs, rfl, q1, q2⟩ := slot_at st13.rel e1 e2
                  have hd : Fz X.K H3 d v := Fz.mono ((st2.trans st3).imm st.rel) d rr
                  refine ⟨p, vs, k, j, rfl, view_int (rr3.view st13.rel ei), q1, by rw [← q2.length]; exact ej, ?_⟩
                  exact h .non _ (st13.mut e2 nt e1 q1 (q2.set j hd)) rfl
                · exact False.elim h
            · exact False.elim h
    · rw [ed] at h
      exact False.elim h

/-! ### x op= e, x a name of data -/
@[simp] def sAug (i : Nat) (g : D → D → Option R) (E : S → Res R) (σ : S) : Out := match σ[i]? with
  | some (some (.d x)) => (match E σ with
    | .ok r σ1 => (match view σ1 r with
      | some y => (match g x y with
        | some res => (match setSlot i (cOf res) σ1 with
          | some σ2 => .nx σ2
          | none => .bad)
        | none => .bad)
      | none => .bad)
    | .exc c σ1 => .exc c σ1
    | .bad => .bad)
  | _ => .bad
theorem ds_aug {i : Nat} {x : Str} {op : Operator} {ti : R2} {g : D → D → Option R} {pos' : Pos} (hN : X.N.Nodup) (ho : OpR X (inplaceOp op) ti) (hg : Op2 X.K ti g) (he : DE X W e E) (hi : X.N[i]? = some x := by rfl) (hx : Loc X.env.scope x := by first | exact Or.inl rfl | exact Or.inr rfl)
    (hf : X.fn x = true ∨ X.env.scope.names.lookup x = some .local := by first | exact .inl rfl | exact .inr rfl) : DS X W (.AugAssign (.Name x pos') op e pos) (sAug i g E) := ps_weak (ps_aug hN hi hx he (fun pins s σ H x y v u Q I rx ry h => augR ho I rx ry h) hf) fun Dd σv H ⟨σ, s, h⟩ => by
  unfold sAug at h
  split at h
  · rename_i x ex
    obtain ⟨vx, e1, hx⟩ := s.val i _ ex
    refine ⟨vx, e1, σ, s, ?_⟩
    cases ea : E σ with
    | bad => rw [ea] at h; exact False.elim h
    | exc c σ1 => rw [ea] at h; exact PostS.exc_of h
    | ok r σ1 =>
      rw [ea] at h
      intro v H1 st rr
      simp only at h
      split at h
      · rename_i y ey
        split at h
        · rename_i res eg
          split at h
          · rename_i σ2 e2
            refine hg x y vx v H1 _ res (Fz.view (Fz.mono (st.imm s) x hx)) (rr.view st.rel ey) eg fun v' H' nr => ?_
            have st' := st.trans (Step.same st.rel nr.same)
            refine h _ _ (store_res s st' (NewR.rrel st nr) (fun j z => ?_) e2)
            subst z
            exact nr
          · exact False.elim h
        · exact False.elim h
      · exact False.elim h
  · exact False.elim h

/-! ### targets -/
abbrev G := D → S → Option S
@[simp] def gN (i : Nat) : G := fun d σ => setSlot i (.d d) σ
@[simp] def gAll : List G → List D → S → Option S
  | [], [], σ => some σ
  | g :: gs, d :: ds, σ => (g d σ).bind fun σ1 => gAll gs ds σ1
  | _, _, _ => none
@[simp] def gT (gs : List G) : G := fun d σ => match d with
  | .tuple ds => gAll gs ds σ
  | _ => none
def rdG (K : PySem.W.Frag) (vs : List Nat) (g : G) : TG := fun v σv H Q => ∃ σ d σ2, SRel K H σ σv ∧ Fz K H d v ∧ g d σ = some σ2 ∧ ∀ σv', Later K H σ σv H σ2 σv' → σv'.length = σv.length → (∀ i, i ∉ vs → σv'[i]? = σv[i]?) → Q σv' H
def rdGs (K : PySem.W.Frag) (vs : List Nat) (gs : List G) : TGs := fun xs σv H Q => ∃ σ ds σ2, SRel K H σ σv ∧ FzAll K H ds xs ∧ gAll gs ds σ = some σ2 ∧ ∀ σv', Later K H σ σv H σ2 σv' → σv'.length = σv.length → (∀ i, i ∉ vs → σv'[i]? = σv[i]?) → Q σv' H
theorem pg_weak {X : Cx} {e : Expr} {t t' : TG} (h : PG X e t) (w : ∀ v σv H Q, t' v σv H Q → t v σv H Q) : PG X e t' := ⟨fun pins s σ H v u Q I r q => h.run pins s σ H v u Q I r (w v σ H Q q)⟩
theorem pgs_weak {X : Cx} {e : List Expr} {t t' : TGs} (h : PGs X e t) (w : ∀ v σv H Q, t' v σv H Q → t v σv H Q) : PGs X e t' := ⟨fun pins s σ H v u Q I r q => h.run pins s σ H v u Q I r (w v σ H Q q)⟩
abbrev DG (X : Cx) (e : Expr) (vs : List Nat) (g : G) : Prop := PG X e (rdG X.K vs g)
abbrev DGs (X : Cx) (es : List Expr) (vs : List Nat) (gs : List G) : Prop := PGs X es (rdGs X.K vs gs)
theorem dg_name {i : Nat} {x : Str} (hN : X.N.Nodup) (hi : X.N[i]? = some x := by rfl) (hx : Loc X.env.scope x := by first | exact Or.inl rfl | exact Or.inr rfl) (hf : X.fn x = true ∨ X.env.scope.names.lookup x = some .local := by first | exact .inl rfl | exact .inr rfl) : DG X (.Name x pos) [i] (gN i) :=
  pg_weak (pg_name hN hi hx hf) fun v σv H Q ⟨σ, d, σ2, s, hd, e, h⟩ => by
    obtain ⟨rfl, nl⟩ := setSlot_eq e
    refine h _ (Later.store s (Later.refl s) nl hd fun _ _ e => by cases e) (by rw [List.length_set]) fun j hj => ?_
    rw [List.getElem?_set_ne (by intro z; exact hj (by rw [z]; exact List.mem_singleton.mpr rfl))]
theorem dgs_nil : DGs X [] [] [] := pgs_weak pgs_nil fun xs σv H Q ⟨σ, ds, σ2, s, hd, e, h⟩ => by
  cases ds with
  | nil => cases e; exact ⟨hd, h _ (Later.refl s) rfl fun _ _ => rfl⟩
  | cons d ds => cases e
theorem dgs_cons {vs ws : List Nat} {g : G} {gs : List G} (h1 : DG X e vs g) (h2 : DGs X es ws gs)
    (hs : (assignEach (e :: es) X.env).map (·.2) = assign e X.env :: (assignEach es X.env).map (·.2) := by rfl) : DGs X (e :: es) (vs ++ ws) (g :: gs) := pgs_weak (pgs_cons h1 h2 hs) fun xs σv H Q ⟨σ, ds, σ2, s, hd, e, h⟩ => by
  cases ds with
  | nil => cases e
  | cons d ds =>
    obtain ⟨x, r, rfl, q1, q2⟩ := hd
    obtain ⟨σ1, e1, e2⟩ := Option.bind_eq_some_iff.mp e
    refine ⟨x, r, rfl, σ, d, σ1, s, q1, e1, fun σv1 l1 n1 o1 => ⟨σ1, ds, σ2, l1.rel, q2, e2, fun σv2 l2 n2 o2 => h _ (l1.trans l2) (n2.trans n1) fun i hi => ?_⟩⟩
    rw [List.mem_append, not_or] at hi
    exact (o2 i hi.2).trans (o1 i hi.1)
theorem dg_tup {k : Nat} {vs : List Nat} {gs : List G} (hc : X.calm = true) (h : DGs X es vs gs) (hn : (assignEach es X.env).length = gs.length := by rfl) (hst : (assignEach es X.env).findIdx? (·.1) = none := by rfl) : DG X (.Tuple es k pos) vs (gT gs) :=
  pg_weak (pg_tup hc h hn hst) fun v σv H Q ⟨σ, d, σ2, s, hd, e, h⟩ => by
    cases d with
    | tuple ds =>
      obtain ⟨a, xs, rfl, q1, q2⟩ := hd
      have hl : ∀ (gs : List G) (ds : List D) (σ σ2 : S), gAll gs ds σ = some σ2 → ds.length = gs.length := by
        intro gs
        induction gs with
        | nil => intro ds σ σ2 e; cases ds with
          | nil => rfl
          | cons => cases e
        | cons g gs ih => intro ds σ σ2 e; cases ds with
          | nil => cases e
          | cons d ds =>
            obtain ⟨σ1, _, e2⟩ := Option.bind_eq_some_iff.mp e
            rw [List.length_cons, List.length_cons, ih ds σ1 σ2 e2]
      exact ⟨a, xs, rfl, q1, by rw [← q2.length]; exact hl _ _ _ _ e, σ, ds, σ2, s, q2, e, h⟩
    | _ => cases e
/-- target = e, by data -/
@[simp] def sUnp (g : G) (E : S → Res R) (σ : S) : Out := match (E σ).bind toD with
  | .ok d σ1 => (match g d σ1 with
    | some σ2 => .nx σ2
    | none => .bad)
  | .exc c σ1 => .exc c σ1
  | .bad => .bad
theorem ds_unp {vs : List Nat} {g : G} {tg : Expr} (he : DE X W e E) (hg : DG X tg vs g) (hs : swapsWithSole [tg] e pos.line X.env = pure false := by rfl) (hw : swappedStores [tg] e X.env = pure none := by rfl)
    (h1 : (assignEach [tg] X.env).map (·.2) = [assign tg X.env] := by rfl) : DS X W (.Assign [tg] e pos) (sUnp g E) := ps_weak (ps_asg (de_frz he) hg hs hw h1) fun Dd σv H ⟨σ, s, h⟩ => by
  refine ⟨σ, s, ?_⟩
  unfold sUnp at h
  unfold eFrz
  cases ea : E σ with
  | bad => rw [ea] at h; exact False.elim h
  | exc c σ1 => rw [ea] at h; exact PostS.exc_of h
  | ok r σ1 =>
    rw [ea] at h
    simp only [Res.bind] at h ⊢
    rcases toD_cases r σ1 with ⟨d, σ2, ed⟩ | ed
    · rw [ed] at h ⊢
      simp only at h ⊢
      intro v H1 st rr
      split at h
      · rename_i σ3 e3
        exact ⟨σ2, d, σ3, st.rel, rr, e3, fun σv' l _ _ => h _ _ (st.toLater.trans l)⟩
      · exact False.elim h
    · rw [ed] at h
      exact False.elim h

/-! ### x, y = a, b (names of the frame): the values are not put in a tuple -/
def RNew (K : PySem.W.Frag) (H H' : Hp) : R → V → Prop
  | .d x, v => Fz K H' x v
  | .own ds, v => ∃ a vs, v = .ref a ∧ H a = none ∧ H' a = some (.lst vs) ∧ FzAll K H' ds vs
  | .slot _, _ => False
def RAll (K : PySem.W.Frag) : Hp → Hp → List R → List V → Prop
  | _, _, [], vs => vs = []
  | H, H', r :: rs, vs => ∃ v w Hm, vs = v :: w ∧ RNew K H H' r v ∧ (∀ b, Hm b = none → H b = none) ∧ (∀ ds p, r = .own ds → v = .ref p → Hm p ≠ none) ∧ RAll K Hm H' rs w
def rdR (K : PySem.W.Frag) (mg : Str → Option Value) (W : WX) (T : S → Res (List R)) : TA := fun σv H Q => ∃ σ, SRel K H σ σv ∧ Post K mg W (fun H H' _ _ rs vs => RAll K H H' rs vs) H σ σv Q (T σ)
@[simp] def rNil (σ : S) : Res (List R) := .ok [] σ
@[simp] def rCons (E : S → Res R) (A : S → Res (List R)) (σ : S) : Res (List R) := (eMov E σ).bind fun r σ1 => (A σ1).bind fun rs σ2 => .ok (r :: rs) σ2
abbrev DR (X : Cx) (W : WX) (es : List Expr) (A : S → Res (List R)) : Prop := PA X es (rdR X.K X.mg W A)
theorem dr_nil : DR X W [] rNil := pa_weak pa_nil fun σv H Q ⟨σ, s, h⟩ => h [] H (Step.refl s) rfl
theorem RNew.of {K : PySem.W.Frag} {H H' : Hp} {σ' : S} {σv : L2.St} {r : R} {v : V} (h : RRel K H H' σ' σv r v) (ns : ∀ j, r ≠ .slot j) : RNew K H H' r v := by
  cases r with
  | d x => exact h
  | own ds => exact h
  | slot i => exact absurd rfl (ns i)
theorem dr_cons {AR : S → Res (List R)} (ha : DE X W e E) (hr : DR X W es AR) (hs : starEach (e :: es) X.env = (false, eval e X.env) :: starEach es X.env := by rfl) : DR X W (e :: es) (rCons E AR) := by
  refine pa_weak (pa_cons (de_mov ha) hr hs) fun σv H Q ⟨σ, s, h⟩ => ⟨σ, s, ?_⟩
  unfold rCons at h
  cases ea : eMov E σ with
  | bad => rw [ea] at h; exact False.elim h
  | exc c σ1 => rw [ea] at h; exact h
  | ok r σ1 =>
    rw [ea] at h
    simp only [Res.bind] at h
    intro v H1 st rr
    refine ⟨σ1, st.rel, ?_⟩
    cases ee : AR σ1 with
    | bad => rw [ee] at h; exact False.elim h
    | exc c σ3 => rw [ee] at h; exact Post.exc_later h st
    | ok ds σ3 =>
      rw [ee] at h
      intro vs H2 st2 rr2
      refine h _ _ (st.trans st2) ⟨v, vs, H1, rfl, RNew.of (rr.later s st st2) (eMov_slot ea), st.keep.gone, fun ds p er ev => ?_, rr2⟩
      subst er ev
      obtain ⟨_, _, e, _, h1, _⟩ := rr
      cases e
      rw [h1]
      exact fun z => by cases z
@[simp] def setAll : List Nat → List R → S → Option S
  | [], [], σ => some σ
  | i :: is, r :: rs, σ => (setSlot i (cOf r) σ).bind fun σ1 => setAll is rs σ1
  | _, _, _ => none
def setVs : List Nat → List V → L2.St → L2.St
  | i :: is, v :: vs, σv => setVs is vs (σv.set i (some v))
  | _, _, σv => σv
theorem storeAll {K : PySem.W.Frag} {H H1 : Hp} {σ : S} {σv : L2.St} (s0 : SRel K H σ σv) : ∀ (is : List Nat) (rs : List R) (vs : List V) (Hm : Hp) (σ1 σ2 : S) (σv1 : L2.St), Later K H σ σv H1 σ1 σv1 → (∀ b, Hm b = none → H b = none) → (∀ j t a, At σ1 σv1 j t a → Hm a ≠ none) →
    RAll K Hm H1 rs vs → setAll is rs σ1 = some σ2 → Later K H σ σv H1 σ2 (setVs is vs σv1)
  | [], [], vs, Hm, σ1, σ2, σv1, l, g, f, ra, e => by
    cases e
    exact l
  | [], r :: rs, _, _, _, _, _, _, _, _, _, e => by cases e
  | i :: is, [], _, _, _, _, _, _, _, _, _, e => by cases e
  | i :: is, r :: rs, vs, Hm, σ1, σ2, σv1, l, g, f, ra, e => by
    obtain ⟨v, w, Hn, rfl, rn, gn, fn, ra⟩ := ra
    obtain ⟨σ3, e1, e2⟩ := Option.bind_eq_some_iff.mp e
    obtain ⟨rfl, nl⟩ := setSlot_eq e1
    have nc : NewC K H σ σv H1 (cOf r) v := by
      cases r with
      | d x => exact rn
      | own ds =>
        obtain ⟨a, xs, e, h0, h1, h2⟩ := rn
        exact ⟨a, xs, e, g a h0, h1, h2⟩
      | slot j => exact False.elim rn
    have l2 := Later.store s0 l nl nc fun ds a ec ev j t hat => by
      cases r with
      | d x => cases ec
      | own ds' =>
        obtain ⟨b, xs, e, h0, _⟩ := rn
        rw [ev] at e
        cases e
        exact f j t a hat h0
      | slot j => exact False.elim rn
    refine storeAll s0 is rs w Hn _ σ2 _ l2 (fun b hb => g b (gn b hb)) (fun j t a hat => ?_) ra e2
    by_cases hj : j = i
    · subst hj
      obtain ⟨⟨ds, q⟩, qv⟩ := hat
      have hl : j < σ1.length := by
        have := (List.getElem?_eq_some_iff.mp q).1
        rw [List.length_set] at this
        exact this
      rw [List.getElem?_set_self hl] at q
      rw [List.getElem?_set_self (by rw [← l.rel.len]; exact hl)] at qv
      injection qv with qv
      injection qv with qv
      subst qv
      cases r with
      | d x => cases q
      | own ds' => exact fn _ a rfl rfl
      | slot j => exact False.elim rn
    · obtain ⟨⟨ds, q⟩, qv⟩ := hat
      rw [List.getElem?_set_ne (Ne.symm hj)] at q qv
      intro z
      exact f j t a ⟨⟨ds, q⟩, qv⟩ (gn a z)
@[simp] def sPar (is : List Nat) (A : S → Res (List R)) (σ : S) : Out := match A σ with
  | .ok rs σ1 => (match setAll is rs σ1 with
    | some σ2 => .nx σ2
    | none => .bad)
  | .exc c σ1 => .exc c σ1
  | .bad => .bad
theorem par_post {K : PySem.W.Frag} {mg : Str → Option Value} {is : List Nat} {AR : S → Res (List R)} {Dd : Ends} {σv : L2.St} {H : Hp} (h : rdS K mg W (sPar is AR) Dd σv H) : rdR K mg W AR σv H fun vs H1 => is.length = vs.length ∧ Dd.nx (setVs is vs σv) H1 := by
  obtain ⟨σ, s, h⟩ := h
  refine ⟨σ, s, ?_⟩
  unfold sPar at h
  cases ea : AR σ with
  | bad => rw [ea] at h; exact False.elim h
  | exc c σ1 => rw [ea] at h; exact PostS.exc_of h
  | ok rs σ1 =>
    rw [ea] at h
    intro vs H1 st rr
    simp only at h
    split at h
    · rename_i σ2 e2
      have hl : ∀ (is : List Nat) (rs : List R) (vs : List V) (H : Hp) (σ σ2 : S), setAll is rs σ = some σ2 → RAll K H H1 rs vs → is.length = vs.length := by
        intro is
        induction is with
        | nil => intro rs vs H σ σ2 e ra; cases rs with
          | nil => rw [show vs = [] from ra]; rfl
          | cons => cases e
        | cons i is ih => intro rs vs H σ σ2 e ra; cases rs with
          | nil => cases e
          | cons r rs =>
            obtain ⟨σ1, _, e2⟩ := Option.bind_eq_some_iff.mp e
            obtain ⟨v, w, Hn, rfl, _, _, _, ra⟩ := ra
            rw [List.length_cons, List.length_cons, ih rs w _ σ1 σ2 e2 ra]
      refine ⟨hl _ _ _ _ _ _ e2 rr, h _ _ (storeAll s is rs vs H σ1 σ2 σv st.toLater (fun _ h => h) (fun j t a hat z => ?_) rr e2)⟩
      obtain ⟨vs0, _, q0, _⟩ := s.at_lst (st.sub.at hat)
      rw [z] at q0
      cases q0
    · exact False.elim h
theorem ds_par {i j : Nat} {x y : Str} {px py pt : Pos} {kt k2 pt2} {AR : S → Res (List R)} (hc : X.calm = true) (hN : X.N.Nodup) (ha : DR X W [a, b] AR) (hi : X.N[i]? = some x := by rfl) (hj : X.N[j]? = some y := by rfl) (hij : i ≠ j := by decide)
    (hx : X.env.scope.names.lookup x = some .local := by rfl) (hy : X.env.scope.names.lookup y = some .local := by rfl)
    (hw : swappedStores [.Tuple [.Name x px, .Name y py] kt pt] (.Tuple [a, b] k2 pt2) X.env = pure (some [x, y]) := by rfl)
    (hs : swapsWithSole [.Tuple [.Name x px, .Name y py] kt pt] (.Tuple [a, b] k2 pt2) pos.line X.env = pure false := by rfl) :
    DS X W (.Assign [.Tuple [.Name x px, .Name y py] kt pt] (.Tuple [a, b] k2 pt2) pos) (sPar [i, j] AR) := ps_weak (ps_par hc hN hi hj hij hx hy ha hw hs) fun Dd σv H h => by
  obtain ⟨σ, s, h⟩ := par_post h
  refine ⟨σ, s, ?_⟩
  cases ea : AR σ with
  | bad => rw [ea] at h; exact h
  | exc c σ1 => rw [ea] at h; exact h
  | ok rs σ1 =>
    rw [ea] at h
    intro vs H1 st rr
    obtain ⟨hl, h⟩ := h vs H1 st rr
    match vs, hl, h with
    | [v, w], _, h => exact ⟨v, w, rfl, h⟩
theorem ds_par3 {i j l : Nat} {x y z : Str} {px py pz pt : Pos} {kt k2 pt2} {AR : S → Res (List R)} (hc : X.calm = true) (hN : X.N.Nodup) (ha : DR X W [a, b, c] AR) (hi : X.N[i]? = some x := by rfl) (hj : X.N[j]? = some y := by rfl) (hl : X.N[l]? = some z := by rfl) (hij : i ≠ j := by decide) (hil : i ≠ l := by decide) (hjl : j ≠ l := by decide)
    (hx : X.env.scope.names.lookup x = some .local := by rfl) (hy : X.env.scope.names.lookup y = some .local := by rfl) (hz : X.env.scope.names.lookup z = some .local := by rfl)
    (hw : swappedStores [.Tuple [.Name x px, .Name y py, .Name z pz] kt pt] (.Tuple [a, b, c] k2 pt2) X.env = pure (some [x, y, z]) := by rfl)
    (hs : swapsWithSole [.Tuple [.Name x px, .Name y py, .Name z pz] kt pt] (.Tuple [a, b, c] k2 pt2) pos.line X.env = pure false := by rfl) :
    DS X W (.Assign [.Tuple [.Name x px, .Name y py, .Name z pz] kt pt] (.Tuple [a, b, c] k2 pt2) pos) (sPar [i, j, l] AR) := ps_weak (ps_par3 hc hN hi hj hl hij hil hjl hx hy hz ha hw hs) fun Dd σv H h => by
  obtain ⟨σ, s, h⟩ := par_post h
  refine ⟨σ, s, ?_⟩
  cases ea : AR σ with
  | bad => rw [ea] at h; exact h
  | exc c σ1 => rw [ea] at h; exact h
  | ok rs σ1 =>
    rw [ea] at h
    intro vs H1 st rr
    obtain ⟨hl, h⟩ := h vs H1 st rr
    match vs, hl, h with
    | [u, v, w], _, h => exact ⟨u, v, w, rfl, h⟩
/-! aug ops -/
theorem ia_add : OpR X (inplaceOp .Add) (fun x y H Q => rI0 (fun i j => .int (i + j)) x y H Q ∨ (∃ i j, x = .str i ∧ y = .str j ∧ i.length + j.length ≤ sizeLine ∧ Q (.str (i ++ j)) H)) := iop_add.or iop_add_str
@[simp] def gIAdd : D → D → Option R
  | .int i, .int j => some (.d (.int (i + j)))
  | .str x, .str y => if x.length + y.length ≤ sizeLine then some (.d (.str (x ++ y))) else none
  | _, _ => none
theorem gIAdd_ok {K : PySem.W.Frag} : Op2 K (fun x y H Q => rI0 (fun i j => .int (i + j)) x y H Q ∨ (∃ i j, x = .str i ∧ y = .str j ∧ i.length + j.length ≤ sizeLine ∧ Q (.str (i ++ j)) H)) gIAdd := by
  intro a b va vb H Q res ha hb e q
  unfold gIAdd at e
  split at e
  · cases e
    exact .inl ⟨_, _, view_int ha, view_int hb, q _ _ new_int⟩
  · obtain ⟨hc, e⟩ := if_some e
    subst e
    exact .inr ⟨_, _, view_str ha, view_str hb, hc, q _ _ new_str⟩
  · cases e
abbrev gMulI := gInt mulOk fun i j => i * j
theorem gMulI_ok {K : PySem.W.Frag} : Op2 K (rI IntMulOk fun i j => .int (i * j)) gMulI := gInt_ok fun _ _ h => mulOk.ok h
theorem gFdv_ok {K : PySem.W.Frag} : Op2 K (rI CDivW fun i j => .int (i / j)) gFdv := gInt_ok fun i j h => by rw [divOk, Bool.and_eq_true] at h; exact ⟨of_decide_eq_true h.1, of_decide_eq_true h.2⟩
theorem gMod_ok {K : PySem.W.Frag} : Op2 K (rI (fun _ j => 0 < j) fun i j => .int (i % j)) gMod := gInt_ok fun i j h => of_decide_eq_true h
theorem ds_augAdd {i : Nat} {x : Str} {pos' : Pos} (hN : X.N.Nodup) (he : DE X W e E) (hi : X.N[i]? = some x := by rfl) (hx : Loc X.env.scope x := by first | exact Or.inl rfl | exact Or.inr rfl)
    (hf : X.fn x = true ∨ X.env.scope.names.lookup x = some .local := by first | exact .inl rfl | exact .inr rfl) : DS X W (.AugAssign (.Name x pos') .Add e pos) (sAug i gIAdd E) := ds_aug hN ia_add gIAdd_ok he hi hx hf
theorem ds_augSub {i : Nat} {x : Str} {pos' : Pos} (hN : X.N.Nodup) (he : DE X W e E) (hi : X.N[i]? = some x := by rfl) (hx : Loc X.env.scope x := by first | exact Or.inl rfl | exact Or.inr rfl)
    (hf : X.fn x = true ∨ X.env.scope.names.lookup x = some .local := by first | exact .inl rfl | exact .inr rfl) : DS X W (.AugAssign (.Name x pos') .Sub e pos) (sAug i gSub E) := ds_aug hN iop_sub gI0_ok he hi hx hf
theorem ds_augMul {i : Nat} {x : Str} {pos' : Pos} (hN : X.N.Nodup) (he : DE X W e E) (hi : X.N[i]? = some x := by rfl) (hx : Loc X.env.scope x := by first | exact Or.inl rfl | exact Or.inr rfl)
    (hf : X.fn x = true ∨ X.env.scope.names.lookup x = some .local := by first | exact .inl rfl | exact .inr rfl) : DS X W (.AugAssign (.Name x pos') .Mult e pos) (sAug i gMulI E) := ds_aug hN iop_mulI gMulI_ok he hi hx hf
theorem ds_augFdv {i : Nat} {x : Str} {pos' : Pos} (hN : X.N.Nodup) (he : DE X W e E) (hi : X.N[i]? = some x := by rfl) (hx : Loc X.env.scope x := by first | exact Or.inl rfl | exact Or.inr rfl)
    (hf : X.fn x = true ∨ X.env.scope.names.lookup x = some .local := by first | exact .inl rfl | exact .inr rfl) : DS X W (.AugAssign (.Name x pos') .FloorDiv e pos) (sAug i gFdv E) := ds_aug hN iop_fdivW gFdv_ok he hi hx hf
theorem ds_augMod {i : Nat} {x : Str} {pos' : Pos} (hN : X.N.Nodup) (he : DE X W e E) (hi : X.N[i]? = some x := by rfl) (hx : Loc X.env.scope x := by first | exact Or.inl rfl | exact Or.inr rfl)
    (hf : X.fn x = true ∨ X.env.scope.names.lookup x = some .local := by first | exact .inl rfl | exact .inr rfl) : DS X W (.AugAssign (.Name x pos') .Mod e pos) (sAug i gMod E) := ds_aug hN iop_mod gMod_ok he hi hx hf
end
end FL

set_option Elab.async false
set_option linter.all false
set_option maxRecDepth 100000
set_option maxHeartbeats 2000000
/-! FL: loops. -/
namespace FL
open PySem PySem.Spec PyProof.Rows L2 RT RZ

/-! ### while -/
def whileN : Nat → (S → Res Bool) → (S → Out) → S → Out
  | 0, _, _, _ => .bad
  | n + 1, T, B, σ => match T σ with
    | .ok b σ1 => if b = true then (match B σ1 with
      | .nx σ2 => whileN n T B σ2
      | .cnt σ2 => whileN n T B σ2
      | .brk σ2 => .nx σ2
      | .ret r σ2 => .ret r σ2
      | .exc c σ2 => .exc c σ2
      | .bad => .bad) else .nx σ1
    | .exc c σ1 => .exc c σ1
    | .bad => .bad
noncomputable def sWhile (T : S → Res Bool) (B : S → Out) (σ : S) : Out := open Classical in if h : ∃ n, whileN n T B σ ≠ .bad then whileN h.choose T B σ else .bad
theorem whileN_succ {T : S → Res Bool} {B : S → Out} : ∀ (n : Nat) (σ : S), whileN n T B σ ≠ .bad → whileN (n + 1) T B σ = whileN n T B σ
  | 0, σ, h => absurd rfl h
  | n + 1, σ, h => by
    show whileN (n + 1 + 1) T B σ = _
    unfold whileN at h ⊢
    cases hT : T σ with
    | bad => rfl
    | exc c σ1 => rfl
    | ok b σ1 =>
      rw [hT] at h
      cases b with
      | false => rfl
      | true =>
        simp only [if_true] at h ⊢
        cases hB : B σ1 with
        | nx σ2 => rw [hB] at h; exact whileN_succ n σ2 h
        | cnt σ2 => rw [hB] at h; exact whileN_succ n σ2 h
        | brk σ2 => rfl
        | ret r σ2 => rfl
        | exc c σ2 => rfl
        | bad => rfl
theorem whileN_add {T : S → Res Bool} {B : S → Out} {n : Nat} {σ : S} (h : whileN n T B σ ≠ .bad) : ∀ k, whileN (n + k) T B σ = whileN n T B σ
  | 0 => rfl
  | k + 1 => by
    have e := whileN_add h k
    show whileN (n + k + 1) T B σ = _
    rw [whileN_succ (n + k) σ (by rw [e]; exact h), e]
theorem sWhile_of {T : S → Res Bool} {B : S → Out} {n : Nat} {σ : S} {o : Out} (e : whileN n T B σ = o) (h : o ≠ .bad) : sWhile T B σ = o := by
  have ex : ∃ n, whileN n T B σ ≠ .bad := ⟨n, by rw [e]; exact h⟩
  have e1 : sWhile T B σ = whileN ex.choose T B σ := by unfold sWhile; rw [dif_pos ex]
  rw [e1, ← e]
  have h1 := ex.choose_spec
  have h2 : whileN n T B σ ≠ .bad := by rw [e]; exact h
  rw [← whileN_add h1 n, ← whileN_add h2 ex.choose, Nat.add_comm]
theorem sWhile_eq (T : S → Res Bool) (B : S → Out) (σ : S) : sWhile T B σ = .bad ∨ ∃ n, sWhile T B σ = whileN n T B σ := by
  by_cases h : ∃ n, whileN n T B σ ≠ .bad
  · exact .inr ⟨h.choose, by unfold sWhile; rw [dif_pos h]⟩
  · exact .inl (by unfold sWhile; rw [dif_neg h])
/-- one turn more -/
theorem sWhile_next {T : S → Res Bool} {B : S → Out} {σ σ1 σ2 : S} (h1 : T σ = .ok true σ1) (h2 : B σ1 = .nx σ2 ∨ B σ1 = .cnt σ2) : sWhile T B σ = sWhile T B σ2 := by
  have st : ∀ n, whileN (n + 1) T B σ = whileN n T B σ2 := fun n => by
    show whileN (n + 1) T B σ = _
    conv => lhs; unfold whileN
    rw [h1]
    simp only [if_true]
    rcases h2 with h2 | h2 <;> rw [h2]
  by_cases h : ∃ n, whileN n T B σ2 ≠ .bad
  · obtain ⟨n, hn⟩ := h
    rw [sWhile_of (o := whileN n T B σ2) (st n) hn, sWhile_of (o := whileN n T B σ2) rfl hn]
  · have h' : ¬ ∃ n, whileN n T B σ ≠ .bad := fun ⟨n, hn⟩ => by
      cases n with
      | zero => exact hn rfl
      | succ n => exact h ⟨n, by rw [← st n]; exact hn⟩
    unfold sWhile
    rw [dif_neg h, dif_neg h']
theorem sWhile_stop {T : S → Res Bool} {B : S → Out} {σ σ1 : S} (h1 : T σ = .ok false σ1) : sWhile T B σ = .nx σ1 :=
  sWhile_of (n := 1) (by unfold whileN; rw [h1]; rfl) fun z => by cases z
theorem sWhile_brk {T : S → Res Bool} {B : S → Out} {σ σ1 σ2 : S} (h1 : T σ = .ok true σ1) (h2 : B σ1 = .brk σ2) : sWhile T B σ = .nx σ2 :=
  sWhile_of (n := 1) (by unfold whileN; rw [h1]; simp only [if_true]; rw [h2]) fun z => by cases z
theorem sWhile_ret {T : S → Res Bool} {B : S → Out} {σ σ1 σ2 : S} {r : R} (h1 : T σ = .ok true σ1) (h2 : B σ1 = .ret r σ2) : sWhile T B σ = .ret r σ2 :=
  sWhile_of (n := 1) (by unfold whileN; rw [h1]; simp only [if_true]; rw [h2]) fun z => by cases z

section
variable {X : Cx} {W : WX} {a b c e o tg iter : Expr} {es : List Expr} {Ea Eb Ec E E0 Ei : S → Res R} {A : S → Res (List D)} {T : S → Res Bool} {B : S → Out} {pos p p2 pos2 : Pos} {body : List Stmt} {vs : List Nat} {g : G} {It : S → Res (List D)}
theorem ds_while (hp : PassesOwn (model X.prog X.w) X.A X.env X.xe) (hc : DT X W c T) (hb : DSs X W body B) : DS X W (.While c body [] pos) (sWhile T B) := ps_weak (ps_while hp hc hb) fun Dd σv H ⟨σ, s, h⟩ => by
  rcases sWhile_eq T B σ with e | ⟨n, e⟩
  · rw [e] at h; exact False.elim h
  rw [e] at h
  refine ⟨fun m σv H => ∃ σ, SRel X.K H σ σv ∧ PostS X.K X.mg W H σ σv Dd (whileN m T B σ), ⟨n, σ, s, h⟩, fun m σv H ⟨σ, s, h⟩ => ⟨σ, s, ?_⟩⟩
  cases m with
  | zero => exact False.elim h
  | succ m =>
    unfold whileN at h
    cases hT : T σ with
    | bad => rw [hT] at h; exact False.elim h
    | exc c σ1 => rw [hT] at h; exact PostS.exc_of h
    | ok b σ1 =>
      rw [hT] at h
      intro b' H1 st eb
      subst eb
      cases b with
      | false => exact h σv H1 st.toLater
      | true =>
        simp only [if_true] at h
        rw [if_pos rfl]
        refine ⟨fun σv' H' => ∃ σ, SRel X.K H' σ σv' ∧ PostS X.K X.mg W H' σ σv' Dd (whileN m T B σ), fun σv' H' w => ⟨m, Nat.lt_succ_self m, w⟩, σ1, st.rel, ?_⟩
        cases hB : B σ1 with
        | nx σ2 => rw [hB] at h; exact fun σv' H' l => ⟨σ2, l.rel, PostS.later (st.toLater.trans l) h⟩
        | cnt σ2 => rw [hB] at h; exact fun σv' H' l => ⟨σ2, l.rel, PostS.later (st.toLater.trans l) h⟩
        | brk σ2 => rw [hB] at h; exact fun σv' H' l => h σv' H' (st.toLater.trans l)
        | ret r σ2 => rw [hB] at h; exact PostS.later (o := .ret r σ2) st.toLater h
        | exc c σ2 => rw [hB] at h; exact PostS.later (o := .exc c σ2) st.toLater h
        | bad => rw [hB] at h; exact h

/-! ### what is walked -/
def IRel (K : PySem.W.Frag) (H : Hp) (ds : List D) (J : L2.It) : Prop :=
  ∃ Gd Y, Walk J ds.length Gd Y ∧ (∀ H', Imm H H' → Gd H') ∧ ∀ i H2 x H3, Imm H H2 → i < ds.length → Y i H2 x H3 → ∃ d, ds[i]? = some d ∧ Same H2 H3 ∧ Fz K H3 d x
def rdI (K : PySem.W.Frag) (mg : Str → Option Value) (W : WX) (It : S → Res (List D)) : TI := fun σv H Rr => ∃ σ, SRel K H σ σv ∧ Post K mg W (fun _ H' _ _ ds J => IRel K H' ds J) H σ σv Rr (It σ)
theorem pi_weak {X : Cx} {tg e : Expr} {t t' : TI} (h : PI X tg e t) (w : ∀ σv H Q, t' σv H Q → t σv H Q) : PI X tg e t' := ⟨fun pins s σ H Rr I q => h.run pins s σ H Rr I (w σ H Rr q)⟩
theorem pi_or {X : Cx} {tg e : Expr} {t t' : TI} (h : PI X tg e t) (h' : PI X tg e t') : PI X tg e (fun σv H Q => t σv H Q ∨ t' σv H Q) := ⟨fun pins s σ H Rr I q => q.elim (h.run pins s σ H Rr I) (h'.run pins s σ H Rr I)⟩
abbrev DI (X : Cx) (W : WX) (tg e : Expr) (It : S → Res (List D)) : Prop := PI X tg e (rdI X.K X.mg W It)
/-- the items of data -/
@[simp] def itemsOf : D → Option (List D)
  | .list ds => some ds
  | .tuple ds => some ds
  | .str z => some (z.cps.toList.map fun c => PyData.str ⟨#[c]⟩)
  | _ => none
@[simp] def iE (E : S → Res R) (σ : S) : Res (List D) := (E σ).bind fun r σ1 => (toD r σ1).bind fun d σ2 => match itemsOf d with
  | some ds => .ok ds σ2
  | none => .bad
theorem irel_list {K : PySem.W.Frag} {H : Hp} {a : Addr} {xs : List V} {ds : List D} (h1 : FzL H a xs) (h2 : FzAll K H ds xs) : IRel K H ds (Itl K a) := by
  refine ⟨_, _, by rw [h2.length]; exact walk_list (xs := xs), fun H' m => Or.inl (m.fzl h1).rd, fun i H2 x H3 m hi y => ?_⟩
  obtain ⟨rfl, y⟩ := y
  obtain ⟨d, e, hd⟩ := (FzAll.mono m ds h2).get' y
  exact ⟨d, e, Same.refl _, hd⟩
theorem irel_tup {K : PySem.W.Frag} {H : Hp} {a : Addr} {xs : List V} {ds : List D} (h1 : SqT K H a xs) (h2 : FzAll K H ds xs) : IRel K H ds (Itt K a) := by
  refine ⟨_, _, by rw [h2.length]; exact walk_tup (xs := xs), fun H' m => m.sqt h1, fun i H2 x H3 m hi y => ?_⟩
  obtain ⟨rfl, y⟩ := y
  obtain ⟨d, e, hd⟩ := (FzAll.mono m ds h2).get' y
  exact ⟨d, e, Same.refl _, hd⟩
theorem irel_str {K : PySem.W.Frag} {H : Hp} {z : Str} : IRel K H (z.cps.toList.map fun c => PyData.str ⟨#[c]⟩) (Its z) := by
  refine ⟨_, _, by rw [List.length_map, Array.length_toList]; exact walk_str, fun H' m => trivial, fun i H2 x H3 m hi y => ?_⟩
  obtain ⟨rfl, c, e, rfl⟩ := y
  exact ⟨.str ⟨#[c]⟩, by rw [List.getElem?_map, Array.getElem?_toList, e]; rfl, Same.refl _, rfl⟩
theorem di_e (he : DE X W e E) : DI X W tg e (iE E) := by
  refine pi_weak (pi_or (pi_or (pi_list (de_frz he)) (pi_tup (de_frz he))) (pi_str (de_frz he))) fun σv H Q ⟨σ, s, h⟩ => ?_
  unfold iE at h
  have hE : eFrz E σ = (E σ).bind fun r σ1 => (toD r σ1).bind fun d σ2 => .ok (.d d) σ2 := rfl
  cases ea : E σ with
  | bad => rw [ea] at h; exact False.elim h
  | exc c σ1 =>
    rw [ea] at h
    refine .inl (.inl ⟨σ, s, ?_⟩)
    rw [hE, ea]
    exact h
  | ok r σ1 =>
    rw [ea] at h hE
    simp only [Res.bind] at h hE
    rcases toD_cases r σ1 with ⟨d, σ2, ed⟩ | ed
    · rw [ed] at h hE
      simp only at h hE
      split at h
      · rename_i ds ei
        cases d with
        | list ys =>
          cases ei
          refine .inl (.inl ⟨σ, s, ?_⟩)
          rw [hE]
          intro v H1 st ⟨a, xs, e1, h1, h2⟩
          exact ⟨a, e1, ⟨xs, .inl h1.rd⟩, h _ _ st (irel_list h1 h2)⟩
        | tuple ys =>
          cases ei
          refine .inl (.inr ⟨σ, s, ?_⟩)
          rw [hE]
          intro v H1 st ⟨a, xs, e1, h1, h2⟩
          exact ⟨a, e1, ⟨xs, h1⟩, h _ _ st (irel_tup h1 h2)⟩
        | str z =>
          cases ei
          refine .inr ⟨σ, s, ?_⟩
          rw [hE]
          intro v H1 st ev
          exact ⟨z, ev, h _ _ st irel_str⟩
        | _ => cases ei
      · exact False.elim h
    · rw [ed] at h
      exact False.elim h
theorem walk_revT {K : PySem.W.Frag} {a : Addr} {xs : List V} : Walk (ItvT K a xs.length) xs.length (fun H => SqT K H a xs) (fun i H x H' => H' = H ∧ xs[xs.length - 1 - i]? = some x) :=
  ⟨fun i _ hi q => ⟨hi, xs, xs[xs.length - 1 - i]'(by omega), q, by simp [show xs.length - 1 - i < xs.length by omega]⟩, fun _ _ => Nat.le_refl _, fun _ _ _ _ _ q y => ⟨y.1, y.2 xs q⟩⟩
theorem walk_zipT {K : PySem.W.Frag} {a b : Addr} {xs ys : List V} {n : Nat} (hn : n = min xs.length ys.length) : Walk (ItzT K a b) n (fun H => SqT K H a xs ∧ SqT K H b ys) (YPair (fun i => xs[i]?) (fun i => ys[i]?)) := by
  subst hn
  refine ⟨fun i _ hi q => ?_, fun _ q => ⟨xs, ys, q.1, q.2, by omega⟩, fun i H v H' _ q y => ?_⟩
  · have h1 : i < xs.length := by omega
    have h2 : i < ys.length := by omega
    exact ⟨xs, ys, xs[i], ys[i], q.1, q.2, by simp [h1], by simp [h2]⟩
  · obtain ⟨T, x, z, h1, h2, h3, h4, h5⟩ := y
    exact ⟨T, x, z, h1, h2, h3, h4 xs q.1, h5 ys q.2⟩
def rngL (lo : Int) (n : Nat) : List D := (List.range n).map fun i => PyData.int (lo + (i : Nat))
def rngC (lo c : Int) (n : Nat) : List D := (List.range n).map fun i => PyData.int (lo + (i : Nat) * c)
theorem irel_range {K : PySem.W.Frag} {H : Hp} {lo : Int} {n : Nat} : IRel K H (rngL lo n) (Itr lo n) := by
  refine ⟨_, _, by unfold rngL; rw [List.length_map, List.length_range]; exact walk_range, fun H' m => trivial, fun i H2 x H3 m hi y => ?_⟩
  obtain ⟨rfl, rfl⟩ := y
  have hi : i < n := by unfold rngL at hi; rw [List.length_map, List.length_range] at hi; exact hi
  exact ⟨.int (lo + i), by unfold rngL; simp [hi], Same.refl _, rfl⟩
theorem irel_rangeC {K : PySem.W.Frag} {H : Hp} {lo c : Int} {n : Nat} : IRel K H (rngC lo c n) (Itc lo c n) := by
  refine ⟨_, _, by unfold rngC; rw [List.length_map, List.length_range]; exact walk_rangeC, fun H' m => trivial, fun i H2 x H3 m hi y => ?_⟩
  obtain ⟨rfl, rfl⟩ := y
  have hi : i < n := by unfold rngC at hi; rw [List.length_map, List.length_range] at hi; exact hi
  exact ⟨.int (lo + i * c), by unfold rngC; simp [hi], Same.refl _, rfl⟩
def rOk (i : Int) : Prop := -(2 ^ 62) ≤ i ∧ i < 2 ^ 62
noncomputable instance (i : Int) : Decidable (rOk i) := Classical.propDecidable _
@[simp] noncomputable def iRange1 (A : S → Res (List D)) (σ : S) : Res (List D) := (A σ).bind fun ds σ1 => match ds with
  | [.int j] => if rOk j then .ok (rngL 0 j.toNat) σ1 else .bad
  | _ => .bad
@[simp] noncomputable def iRange2 (A : S → Res (List D)) (σ : S) : Res (List D) := (A σ).bind fun ds σ1 => match ds with
  | [.int i, .int j] => if rOk i ∧ rOk j then .ok (rngL i (j - i).toNat) σ1 else .bad
  | _ => .bad
@[simp] noncomputable def iRange3 (A : S → Res (List D)) (σ : S) : Res (List D) := (A σ).bind fun ds σ1 => match ds with
  | [.int i, .int j, .int c] => if c = -1 ∧ rOk i ∧ rOk j then .ok (rngC i (-1) (i - j).toNat) σ1 else .bad
  | _ => .bad
theorem di_range1 (hg : Gl X "range") (hm : X.mg "range" = none) (ha : DA X W [a] A) (hs : starEach [a] X.env = [(false, eval a X.env)] := by rfl) : DI X W tg (.Call (.Name "range" p) [a] [] pos) (iRange1 A) :=
  pi_weak (pi_range1 hg hm ha hs) fun σv H Q ⟨σ, s, h⟩ => by
    refine ⟨σ, s, ?_⟩
    unfold iRange1 at h
    cases ea : A σ with
    | bad => rw [ea] at h; exact False.elim h
    | exc c σ1 => rw [ea] at h; exact h
    | ok ds σ1 =>
      rw [ea] at h
      intro vs H1 st hv
      simp only [Res.bind] at h
      split at h
      · rename_i j
        split at h
        · rename_i hj
          obtain ⟨v, rfl, e⟩ := hv.one
          exact ⟨j, by rw [show v = V.int j from e], hj.1, hj.2, h _ _ st irel_range⟩
        · exact False.elim h
      · exact False.elim h
theorem di_range2 (hg : Gl X "range") (hm : X.mg "range" = none) (ha : DA X W [a, b] A) (hs : starEach [a, b] X.env = [(false, eval a X.env), (false, eval b X.env)] := by rfl) (hs2 : starEach [b] X.env = [(false, eval b X.env)] := by rfl) : DI X W tg (.Call (.Name "range" p) [a, b] [] pos) (iRange2 A) :=
  pi_weak (pi_range2 hg hm ha hs hs2) fun σv H Q ⟨σ, s, h⟩ => by
    refine ⟨σ, s, ?_⟩
    unfold iRange2 at h
    cases ea : A σ with
    | bad => rw [ea] at h; exact False.elim h
    | exc c σ1 => rw [ea] at h; exact h
    | ok ds σ1 =>
      rw [ea] at h
      intro vs H1 st hv
      simp only [Res.bind] at h
      split at h
      · rename_i i j
        split at h
        · rename_i hj
          obtain ⟨v, w, rfl, e, e2⟩ := hv.two
          exact ⟨i, j, by rw [show v = V.int i from e, show w = V.int j from e2], ⟨hj.1.1, hj.1.2, hj.2.1, hj.2.2⟩, h _ _ st irel_range⟩
        · exact False.elim h
      · exact False.elim h
theorem di_range3 (hg : Gl X "range") (hm : X.mg "range" = none) (ha : DA X W [a, b, c] A) (hs : starEach [a, b, c] X.env = (false, eval a X.env) :: starEach [b, c] X.env := by rfl) (hs2 : (backTo pos (starEach [b, c] X.env)).any (·.1) = false := by rfl) : DI X W tg (.Call (.Name "range" p) [a, b, c] [] pos) (iRange3 A) :=
  pi_weak (pi_range3 hg hm ha hs hs2) fun σv H Q ⟨σ, s, h⟩ => by
    refine ⟨σ, s, ?_⟩
    unfold iRange3 at h
    cases ea : A σ with
    | bad => rw [ea] at h; exact False.elim h
    | exc c σ1 => rw [ea] at h; exact h
    | ok ds σ1 =>
      rw [ea] at h
      intro vs H1 st hv
      simp only [Res.bind] at h
      split at h
      · rename_i i j c
        split at h
        · rename_i hj
          obtain ⟨u, r, rfl, e, h2⟩ := hv
          obtain ⟨v, w, rfl, e1, e2⟩ := h2.two
          obtain ⟨rfl, h3, h4⟩ := hj
          exact ⟨i, j, -1, (i - j).toNat, by rw [show u = V.int i from e, show v = V.int j from e1, show w = V.int (-1) from e2], RgC.neg h3.1 h3.2 h4.1 h4.2, h _ _ st irel_rangeC⟩
        · exact False.elim h
      · exact False.elim h
/-- reversed(e) -/
@[simp] def iRevd (E : S → Res R) (σ : S) : Res (List D) := (E σ).bind fun r σ1 => (toD r σ1).bind fun d σ2 => match d with
  | .list ds => .ok ds.reverse σ2
  | .tuple ds => .ok ds.reverse σ2
  | _ => .bad
theorem di_rev (hg : Gl X "reversed") (hm : X.mg "reversed" = none) (he : DE X W e E) (hs : starEach [e] X.env = (false, eval e X.env) :: starEach [] X.env := by rfl) : DI X W tg (.Call (.Name "reversed" p) [e] [] pos) (iRevd E) :=
  pi_weak (pi_revA hg hm (de_frz he) hs) fun σv H Q ⟨σ, s, h⟩ => by
    refine ⟨σ, s, ?_⟩
    unfold iRevd at h
    unfold eFrz
    cases ea : E σ with
    | bad => rw [ea] at h; exact False.elim h
    | exc c σ1 => rw [ea] at h; exact h
    | ok r σ1 =>
      rw [ea] at h
      simp only [Res.bind] at h ⊢
      rcases toD_cases r σ1 with ⟨d, σ2, ed⟩ | ed
      · rw [ed] at h ⊢
        simp only at h ⊢
        intro v H1 st rr
        have rel : ∀ (ds : List D) (xs : List V) (J : L2.It) (G0 : Hp → Prop), FzAll X.K H1 ds xs → Walk J xs.length G0 (fun i H x H' => H' = H ∧ xs[xs.length - 1 - i]? = some x) → (∀ H', Imm H1 H' → G0 H') → IRel X.K H1 ds.reverse J := fun ds xs J G0 h2 w hg => by
          refine ⟨G0, _, by rw [List.length_reverse, h2.length]; exact w, hg, fun i H2 x H3 m hi y => ?_⟩
          obtain ⟨rfl, y⟩ := y
          obtain ⟨d, e, hd⟩ := (FzAll.mono m ds h2).get' y
          rw [List.length_reverse] at hi
          exact ⟨d, by rw [List.getElem?_reverse hi, h2.length]; exact e, Same.refl _, hd⟩
        cases d with
        | list ds =>
          obtain ⟨a, xs, rfl, h1, h2⟩ := rr
          exact ⟨a, xs, rfl, .inl ⟨.inl h1.rd, h _ _ st (rel ds xs _ _ h2 walk_rev fun H' m => .inl (m.fzl h1).rd)⟩⟩
        | tuple ds =>
          obtain ⟨a, xs, rfl, h1, h2⟩ := rr
          exact ⟨a, xs, rfl, .inr ⟨h1, h _ _ st (rel ds xs _ _ h2 walk_revT fun H' m => m.sqt h1)⟩⟩
        | _ => exact False.elim h
      · rw [ed] at h
        exact False.elim h
/-- enumerate(e) -/
def enumL : Nat → List D → List D
  | _, [] => []
  | n, d :: ds => .tuple [.int n, d] :: enumL (n + 1) ds
theorem enumL_len (n : Nat) (ds : List D) : (enumL n ds).length = ds.length := by
  induction ds generalizing n with
  | nil => rfl
  | cons d ds ih => show (enumL (n + 1) ds).length + 1 = _; rw [ih]; rfl
theorem enumL_get (n : Nat) (ds : List D) (i : Nat) : (enumL n ds)[i]? = (ds[i]?).map fun d => PyData.tuple [.int ((n + i : Nat) : Int), d] := by
  induction ds generalizing n i with
  | nil => simp [enumL]
  | cons d ds ih =>
    cases i with
    | zero => simp [enumL]
    | succ i =>
      show (enumL (n + 1) ds)[i]? = _
      rw [ih, List.getElem?_cons_succ, show n + 1 + i = n + (i + 1) by omega]
@[simp] def iEnumr (A : S → Res (List D)) (σ : S) : Res (List D) := (A σ).bind fun ds σ1 => match ds with
  | [.list ds] => .ok (enumL 0 ds) σ1
  | _ => .bad
theorem fz_pair {K : PySem.W.Frag} {H2 : Hp} {Tn : Addr} {x y : V} {c d : D} (n : H2 Tn = none) (h1 : Fz K H2 c x) (h2 : Fz K H2 d y) : Fz K (upd H2 Tn (.tup [x, y])) (.tuple [c, d]) (.ref Tn) := by
  have m := Same.imm (same_new (o := .tup [x, y]) n)
  exact ⟨Tn, [x, y], rfl, .inl (.inl upd_same), FzAll.cons (Fz.mono m c h1) (FzAll.cons (Fz.mono m d h2) FzAll.nil)⟩
theorem di_enum {elts : List Expr} {kk : Nat} {tpos : Pos} (hg : Gl X "enumerate") (hm : X.mg "enumerate" = none) (ha : DA X W [e] A) (hs : starEach [e] X.env = [(false, eval e X.env)] := by rfl) :
    DI X W (.Tuple elts kk tpos) (.Call (.Name "enumerate" p) [e] [] pos) (iEnumr A) :=
  pi_weak (pi_enum hg hm ha hs) fun σv H Q ⟨σ, s, h⟩ => by
    refine ⟨σ, s, ?_⟩
    unfold iEnumr at h
    cases ea : A σ with
    | bad => rw [ea] at h; exact False.elim h
    | exc c σ1 => rw [ea] at h; exact h
    | ok ds σ1 =>
      rw [ea] at h
      intro vs H1 st hv
      simp only [Res.bind] at h
      split at h
      · rename_i ds
        obtain ⟨v, rfl, a, xs, rfl, h1, h2⟩ := hv.one
        refine ⟨a, xs, rfl, .inl h1.rd, h _ _ st ⟨_, _, by rw [enumL_len, h2.length]; exact walk_enum, fun H' m => Or.inl (m.fzl h1).rd, fun i H2 x H3 m hi y => ?_⟩⟩
        obtain ⟨Tn, u, w, rfl, n, rfl, e1, e2⟩ := y
        obtain ⟨d, e, hd⟩ := (FzAll.mono m ds h2).get' e2
        cases e1
        refine ⟨_, by rw [enumL_get, e]; rfl, same_new n, fz_pair n ?_ hd⟩
        show V.int _ = V.int _
        rw [Nat.zero_add]
      · exact False.elim h
/-- zip(a, b) of two lists or two tuples -/
def zipL : List D → List D → List D
  | a :: as, b :: bs => .tuple [a, b] :: zipL as bs
  | _, _ => []
theorem zipL_len : ∀ (ds es : List D), (zipL ds es).length = min ds.length es.length
  | [], es => by simp [zipL]
  | _ :: _, [] => by simp [zipL]
  | d :: ds, e :: es => by show (zipL ds es).length + 1 = _; rw [zipL_len]; simp only [List.length_cons]; omega
theorem zipL_get : ∀ (ds es : List D) (i : Nat) (d e : D), ds[i]? = some d → es[i]? = some e → (zipL ds es)[i]? = some (.tuple [d, e])
  | [], _, _, _, _, h, _ => by simp at h
  | _ :: _, [], _, _, _, _, h => by simp at h
  | a :: as, b :: bs, 0, d, e, h, h2 => by
    have e1 : a = d := by simpa using h
    have e2 : b = e := by simpa using h2
    subst e1 e2
    rfl
  | a :: as, b :: bs, i + 1, d, e, h, h2 => zipL_get as bs i d e (by simpa using h) (by simpa using h2)
@[simp] def iZipr (A : S → Res (List D)) (σ : S) : Res (List D) := (A σ).bind fun ds σ1 => match ds with
  | [.list ds, .list es] => .ok (zipL ds es) σ1
  | [.tuple ds, .tuple es] => .ok (zipL ds es) σ1
  | _ => .bad
theorem di_zip {elts : List Expr} {kk : Nat} {tpos : Pos} (hg : Gl X "zip") (hm : X.mg "zip" = none) (ha : DA X W [a, b] A) (hs : starEach [a, b] X.env = (false, eval a X.env) :: starEach [b] X.env := by rfl) (hpl : (backTo pos (starEach [b] X.env)).any (·.1) = false := by rfl) :
    DI X W (.Tuple elts kk tpos) (.Call (.Name "zip" p) [a, b] [] pos) (iZipr A) :=
  pi_weak (pi_zipA hg hm ha hs hpl) fun σv H Q ⟨σ, s, h⟩ => by
    refine ⟨σ, s, ?_⟩
    unfold iZipr at h
    cases ea : A σ with
    | bad => rw [ea] at h; exact False.elim h
    | exc c σ1 => rw [ea] at h; exact h
    | ok ds σ1 =>
      rw [ea] at h
      intro vs H1 st hv
      simp only [Res.bind] at h
      have rel : ∀ (ds es : List D) (xs ys : List V) (J : L2.It) (G0 : Hp → Prop), FzAll X.K H1 ds xs → FzAll X.K H1 es ys → Walk J (min xs.length ys.length) G0 (YPair (fun i => xs[i]?) (fun i => ys[i]?)) → (∀ H', Imm H1 H' → G0 H') → IRel X.K H1 (zipL ds es) J := fun ds es xs ys J G0 h2 h3 w hg => by
        refine ⟨G0, _, by rw [zipL_len, h2.length, h3.length]; exact w, hg, fun i H2 x H3 m hi y => ?_⟩
        obtain ⟨Tn, u, w, rfl, n, rfl, e1, e2⟩ := y
        obtain ⟨d, q1, hd⟩ := (FzAll.mono m ds h2).get' e1
        obtain ⟨e, q2, he⟩ := (FzAll.mono m es h3).get' e2
        exact ⟨_, zipL_get _ _ _ _ _ q1 q2, same_new n, fz_pair n hd he⟩
      split at h
      · rename_i ds es
        obtain ⟨v, w, rfl, ⟨p1, xs, rfl, h1, h2⟩, ⟨p2, ys, rfl, h3, h4⟩⟩ := hv.two
        exact ⟨p1, p2, xs, ys, rfl, .inl ⟨.inl h1.rd, .inl h3.rd, h _ _ st (rel _ _ xs ys _ _ h2 h4 (walk_zip rfl) fun H' m => ⟨.inl (m.fzl h1).rd, .inl (m.fzl h3).rd⟩)⟩⟩
      · rename_i ds es
        obtain ⟨v, w, rfl, ⟨p1, xs, rfl, h1, h2⟩, ⟨p2, ys, rfl, h3, h4⟩⟩ := hv.two
        exact ⟨p1, p2, xs, ys, rfl, .inr ⟨h1, h3, h _ _ st (rel _ _ xs ys _ _ h2 h4 (walk_zipT rfl) fun H' m => ⟨m.sqt h1, m.sqt h3⟩)⟩⟩
      · exact False.elim h

/-! ### for -/
@[simp] def forL (g : G) (B : S → Out) : List D → S → Out
  | [], σ => .nx σ
  | d :: ds, σ => match g d σ with
    | none => .bad
    | some σ1 => match B σ1 with
      | .nx σ2 => forL g B ds σ2
      | .cnt σ2 => forL g B ds σ2
      | .brk σ2 => .nx σ2
      | .ret r σ2 => .ret r σ2
      | .exc c σ2 => .exc c σ2
      | .bad => .bad
@[simp] def sFor (It : S → Res (List D)) (g : G) (B : S → Out) (σ : S) : Out := match It σ with
  | .ok ds σ1 => forL g B ds σ1
  | .exc c σ1 => .exc c σ1
  | .bad => .bad
theorem Later.same {K : PySem.W.Frag} {H H1 H2 : Hp} {σ σ1 : S} {σv σv1 : L2.St} (l : Later K H σ σv H1 σ1 σv1) (s : Same H1 H2) : Later K H σ σv H2 σ1 σv1 := l.trans (Step.same l.rel s).toLater
theorem ds_for (hp : PassesOwn (model X.prog X.w) X.A X.env X.xe) (hc : X.calm = true) (hi : DI X W tg iter It) (hg : DG X tg vs g) (hb : DSs X W body B)
    (hs : ∀ x, foldedSetIterable iter X.env x = pure x := by intro _; rfl) : DS X W (.For tg iter body [] pos) (sFor It g B) := ps_weak (ps_for hp hc hi hg hb hs) fun Dd σv H ⟨σ, s, h⟩ => by
  refine ⟨σ, s, ?_⟩
  unfold sFor at h
  cases ea : It σ with
  | bad => rw [ea] at h; exact False.elim h
  | exc c σ1 => rw [ea] at h; exact PostS.exc_of h
  | ok ds σ1 =>
    rw [ea] at h
    intro J H1 st ir
    obtain ⟨G0, Y, w, hG, hY⟩ := ir
    have h : PostS X.K X.mg W H1 σ1 σv Dd (forL g B ds σ1) := PostS.later st.toLater h
    refine for_it w (fun i σv' H' => ∃ σ', Later X.K H1 σ1 σv H' σ' σv' ∧ PostS X.K X.mg W H' σ' σv' Dd (forL g B (ds.drop i) σ')) ⟨σ1, Later.refl st.rel, h⟩ (fun i σv' H' _ ⟨σ', l, _⟩ => hG H' (l.imm st.rel)) (fun i x σv' H' H'' hi ⟨σ', l, h⟩ y => ?_) fun σv' H' ⟨σ', l, h⟩ => ?_
    · obtain ⟨d, ed, sm, hd⟩ := hY i H' x H'' (l.imm st.rel) hi y
      have hdrop : ds.drop i = d :: ds.drop (i + 1) := by
        rw [List.drop_eq_getElem_cons hi]
        congr 1
        rw [List.getElem?_eq_getElem hi] at ed
        exact Option.some.inj ed
      rw [hdrop] at h
      unfold forL at h
      have l' := l.same sm
      split at h
      · exact False.elim h
      · rename_i σ2 eg
        refine ⟨σ', d, σ2, l'.rel, hd, eg, fun σv2 l2 _ _ => ⟨σ2, l2.rel, ?_⟩⟩
        have l3 := (Step.same l.rel sm).toLater.trans l2
        cases hB : B σ2 with
        | nx σ3 => rw [hB] at h; exact fun σv' H' q => ⟨σ3, l.trans (l3.trans q), PostS.later (l3.trans q) h⟩
        | cnt σ3 => rw [hB] at h; exact fun σv' H' q => ⟨σ3, l.trans (l3.trans q), PostS.later (l3.trans q) h⟩
        | brk σ3 => rw [hB] at h; exact fun σv' H' q => h σv' H' (l3.trans q)
        | ret r σ3 => rw [hB] at h; exact PostS.later (o := .ret r σ3) l3 h
        | exc c σ3 => rw [hB] at h; exact PostS.later (o := .exc c σ3) l3 h
        | bad => rw [hB] at h; exact h
    · rw [List.drop_eq_nil_of_le (Nat.le_refl _)] at h
      exact h σv' H' (Later.refl l.rel)
end
end FL

set_option Elab.async false
set_option linter.all false
set_option maxRecDepth 100000
set_option maxHeartbeats 2000000
/-! FL: list comprehensions. -/
namespace FL
open PySem PySem.Spec PyProof.Rows L2

/-! ### which slots a target sets -/
def GOk (vs : List Nat) (g : G) : Prop := ∀ d σ σ2, g d σ = some σ2 → σ2.length = σ.length ∧ ∀ i : Nat, i ∉ vs → σ2[i]? = σ[i]?
def GsOk (vs : List Nat) (gs : List G) : Prop := ∀ ds σ σ2, gAll gs ds σ = some σ2 → σ2.length = σ.length ∧ ∀ i : Nat, i ∉ vs → σ2[i]? = σ[i]?
theorem gok_n {i : Nat} : GOk [i] (gN i) := fun d σ σ2 e => by
  obtain ⟨rfl, _⟩ := setSlot_eq e
  refine ⟨List.length_set, fun j hj => ?_⟩
  rw [List.getElem?_set_ne (by intro z; exact hj (by rw [z]; exact List.mem_singleton.mpr rfl))]
theorem gsok_nil : GsOk [] [] := fun ds σ σ2 e => by
  cases ds with
  | nil => cases e; exact ⟨rfl, fun _ _ => rfl⟩
  | cons => cases e
theorem gsok_cons {vs ws : List Nat} {g : G} {gs : List G} (h1 : GOk vs g) (h2 : GsOk ws gs) : GsOk (vs ++ ws) (g :: gs) := fun ds σ σ2 e => by
  cases ds with
  | nil => cases e
  | cons d ds =>
    obtain ⟨σ1, e1, e2⟩ := Option.bind_eq_some_iff.mp e
    obtain ⟨n1, o1⟩ := h1 d σ σ1 e1
    obtain ⟨n2, o2⟩ := h2 ds σ1 σ2 e2
    refine ⟨n2.trans n1, fun i hi => ?_⟩
    rw [List.mem_append, not_or] at hi
    exact (o2 i hi.2).trans (o1 i hi.1)
theorem gok_t {vs : List Nat} {gs : List G} (h : GsOk vs gs) : GOk vs (gT gs) := fun d σ σ2 e => by
  cases d with
  | tuple ds => exact h ds σ σ2 e
  | _ => cases e

/-! ### the block's own names -/
@[simp] def wipeS (σ : S) : List Nat → S
  | [] => σ
  | v :: vs => (wipeS σ vs).set v none
@[simp] def backS (σ0 : S) (σ : S) : List Nat → S
  | [] => σ
  | v :: vs => (backS σ0 σ vs).set v ((σ0[v]?).getD none)
theorem wipeS_len (σ : S) : ∀ vs : List Nat, (wipeS σ vs).length = σ.length
  | [] => rfl
  | v :: vs => by unfold wipeS; rw [List.length_set, wipeS_len σ vs]
theorem wipeS_out {σ : S} {i : Nat} : ∀ {vs : List Nat}, i ∉ vs → (wipeS σ vs)[i]? = σ[i]?
  | [], _ => rfl
  | v :: vs, h => by
    have h1 : v ≠ i := fun e => h (by rw [e]; exact List.mem_cons_self)
    have h2 : i ∉ vs := fun m => h (List.mem_cons_of_mem _ m)
    unfold wipeS
    rw [List.getElem?_set_ne h1]
    exact wipeS_out h2
theorem wipeS_in {σ : S} {i : Nat} : ∀ {vs : List Nat}, i ∈ vs → i < σ.length → (wipeS σ vs)[i]? = some none
  | [], h, _ => by cases h
  | v :: vs, h, hl => by
    unfold wipeS
    by_cases hv : v = i
    · subst hv
      rw [List.getElem?_set_self (by rw [wipeS_len]; exact hl)]
    · rw [List.getElem?_set_ne hv]
      exact wipeS_in ((List.mem_cons.mp h).resolve_left fun z => hv z.symm) hl
theorem wipeV_in {σ : L2.St} {i : Nat} : ∀ {vs : List Nat}, i ∈ vs → i < σ.length → (wipe σ vs)[i]? = some none
  | [], h, _ => by cases h
  | v :: vs, h, hl => by
    unfold wipe
    by_cases hv : v = i
    · subst hv
      rw [List.getElem?_set_self (by rw [wipe_length]; exact hl)]
    · rw [List.getElem?_set_ne hv]
      exact wipeV_in ((List.mem_cons.mp h).resolve_left fun z => hv z.symm) hl
theorem wipeV_out {σ : L2.St} {i : Nat} : ∀ {vs : List Nat}, i ∉ vs → (wipe σ vs)[i]? = σ[i]?
  | [], _ => rfl
  | v :: vs, h => by
    have h1 : v ≠ i := fun e => h (by rw [e]; exact List.mem_cons_self)
    have h2 : i ∉ vs := fun m => h (List.mem_cons_of_mem _ m)
    unfold wipe
    rw [List.getElem?_set_ne h1]
    exact wipeV_out h2
theorem wipe_eq {σ τ : L2.St} {vs : List Nat} (hl : σ.length = τ.length) (h : ∀ i : Nat, i ∉ vs → σ[i]? = τ[i]?) : wipe σ vs = wipe τ vs := by
  apply List.ext_getElem?
  intro i
  by_cases hi : i ∈ vs
  · by_cases hn : i < σ.length
    · rw [wipeV_in hi hn, wipeV_in hi (hl ▸ hn)]
    · rw [List.getElem?_eq_none (by rw [wipe_length]; omega), List.getElem?_eq_none (by rw [wipe_length]; omega)]
  · rw [wipeV_out hi, wipeV_out hi]
    exact h i hi
theorem wipe_wipe {σ : L2.St} {vs : List Nat} : wipe (wipe σ vs) vs = wipe σ vs := wipe_eq (wipe_length _ _) fun i hi => wipeV_out hi
theorem backS_len (σ0 σ : S) : ∀ vs : List Nat, (backS σ0 σ vs).length = σ.length
  | [] => rfl
  | v :: vs => by unfold backS; rw [List.length_set, backS_len σ0 σ vs]
theorem backS_out {σ0 σ : S} {i : Nat} : ∀ {vs : List Nat}, i ∉ vs → (backS σ0 σ vs)[i]? = σ[i]?
  | [], _ => rfl
  | v :: vs, h => by
    have h1 : v ≠ i := fun e => h (by rw [e]; exact List.mem_cons_self)
    have h2 : i ∉ vs := fun m => h (List.mem_cons_of_mem _ m)
    unfold backS
    rw [List.getElem?_set_ne h1]
    exact backS_out h2
theorem backS_in {σ0 σ : S} {i : Nat} : ∀ {vs : List Nat}, i ∈ vs → i < σ.length → (backS σ0 σ vs)[i]? = some ((σ0[i]?).getD none)
  | [], h, _ => by cases h
  | v :: vs, h, hl => by
    unfold backS
    by_cases hv : v = i
    · subst hv
      rw [List.getElem?_set_self (by rw [backS_len]; exact hl)]
    · rw [List.getElem?_set_ne hv]
      exact backS_in ((List.mem_cons.mp h).resolve_left fun z => hv z.symm) hl
/-- no slot of vs holds a list -/
@[simp] def noL (σ : S) (vs : List Nat) : Bool := vs.all fun i => match σ[i]? with
  | some (some (.l _ _)) => false
  | _ => true
theorem noL_at {σ : S} {vs : List Nat} (h : noL σ vs = true) {i : Nat} (hi : i ∈ vs) {t : Tag} {ds : List D} : σ[i]? ≠ some (some (.l t ds)) := fun e => by
  have := List.all_eq_true.mp h i hi
  rw [e] at this
  cases this
section
variable {K : PySem.W.Frag} {H H1 H2 H' : Hp} {σ σ0 σ1 σ2 : S} {σv σv1 σv2 : L2.St} {vs : List Nat}
theorem SRel.wipe (s : SRel K H σ σv) : SRel K H (wipeS σ vs) (L2.wipe σv vs) := by
  have out : ∀ (i : Nat) (c : C), (wipeS σ vs)[i]? = some (some c) → i ∉ vs ∧ σ[i]? = some (some c) := fun i c e => by
    by_cases hi : i ∈ vs
    · by_cases hn : i < σ.length
      · rw [wipeS_in hi hn] at e; cases e
      · rw [List.getElem?_eq_none (by rw [wipeS_len]; omega)] at e; cases e
    · rw [wipeS_out hi] at e
      exact ⟨hi, e⟩
  refine ⟨by rw [wipeS_len, wipe_length]; exact s.len, fun i c e => ?_, fun i j t u a ⟨⟨ds, e⟩, ev⟩ ⟨⟨es, e2⟩, ev2⟩ => ?_, s.tab⟩
  · obtain ⟨h1, h2⟩ := out i c e
    rw [wipeV_out h1]
    exact s.val i c h2
  · obtain ⟨h1, h2⟩ := out i _ e
    obtain ⟨h3, h4⟩ := out j _ e2
    rw [wipeV_out h1] at ev
    rw [wipeV_out h3] at ev2
    exact s.apart i j t u a ⟨⟨ds, h2⟩, ev⟩ ⟨⟨es, h4⟩, ev2⟩
theorem ownM_wipe {a : Addr} (h : OwnM (wipeS σ vs) (L2.wipe σv vs) a) : OwnM σ σv a := by
  obtain ⟨i, t, n, ⟨ds, e⟩, ev⟩ := h
  by_cases hi : i ∈ vs
  · by_cases hn : i < σ.length
    · rw [wipeS_in hi hn] at e; cases e
    · rw [List.getElem?_eq_none (by rw [wipeS_len]; omega)] at e; cases e
  · rw [wipeS_out hi] at e
    rw [wipeV_out hi] at ev
    exact ⟨i, t, n, ⟨ds, e⟩, ev⟩
theorem sub_wipe (h : ∀ i : Nat, i ∉ vs → SubC σ[i]? σ2[i]?) (hl : σ.length = σ2.length) : Sub (wipeS σ vs) (wipeS σ2 vs) := fun i => by
  by_cases hi : i ∈ vs
  · by_cases hn : i < σ.length
    · rw [wipeS_in hi hn, wipeS_in hi (hl ▸ hn)]; exact SubC.refl _
    · rw [List.getElem?_eq_none (by rw [wipeS_len]; omega), List.getElem?_eq_none (by rw [wipeS_len]; omega)]; exact SubC.refl _
  · rw [wipeS_out hi, wipeS_out hi]
    exact h i hi
/-- behind the block the names are as they were -/
theorem Step.back (s0 : SRel K H σ0 σv) (nl : noL σ0 vs = true) (st : Step K H (wipeS σ0 vs) (L2.wipe σv vs) H' σ2) : Step K H σ0 σv H' (backS σ0 σ2 vs) := by
  have keep : Keep (OwnM σ0 σv) H H' := st.keep.mono fun _ _ _ z => ownM_wipe z
  have len2 : σ2.length = σv.length := by rw [st.rel.len, wipe_length]
  have im := s0.imm keep
  have inn : ∀ i, i ∈ vs → (backS σ0 σ2 vs)[i]? = σ0[i]? := fun i hi => by
    by_cases hn : i < σ2.length
    · rw [backS_in hi hn]
      have : i < σ0.length := by rw [s0.len, ← len2]; exact hn
      rw [List.getElem?_eq_getElem this]; rfl
    · rw [List.getElem?_eq_none (by rw [backS_len]; omega), List.getElem?_eq_none (by rw [s0.len, ← len2]; omega)]
  have atb : ∀ i t a, At (backS σ0 σ2 vs) σv i t a → At σ2 (L2.wipe σv vs) i t a := fun i t a ⟨⟨ds, e⟩, ev⟩ => by
    by_cases hi : i ∈ vs
    · rw [inn i hi] at e
      exact absurd e (noL_at nl hi)
    · rw [backS_out hi] at e
      exact ⟨⟨ds, e⟩, by rw [wipeV_out hi]; exact ev⟩
  refine ⟨keep, ⟨by rw [backS_len]; exact len2, fun i c e => ?_, fun i j t u a h1 h2 => st.rel.apart i j t u a (atb _ _ _ h1) (atb _ _ _ h2), st.rel.tab⟩, fun i => ?_⟩
  · by_cases hi : i ∈ vs
    · rw [inn i hi] at e
      obtain ⟨v, e1, hc⟩ := s0.val i c e
      refine ⟨v, e1, ?_⟩
      cases c with
      | d x => exact Fz.mono im x hc
      | l t ds => exact absurd e (noL_at nl hi)
    · rw [backS_out hi] at e
      obtain ⟨v, e1, hc⟩ := st.rel.val i c e
      exact ⟨v, by rw [← wipeV_out hi]; exact e1, hc⟩
  · by_cases hi : i ∈ vs
    · rw [inn i hi]; exact SubC.refl _
    · rw [backS_out hi]
      have := st.sub i
      rw [wipeS_out hi] at this
      exact this
end

/-! ### [elt for tg in iter if ..] -/
@[simp] def lcL (vs : List Nat) (g : G) (T : S → Res Bool) (E : S → Res R) : List D → S → Res (List D)
  | [], σ => .ok [] σ
  | d :: ds, σ => match g d σ with
    | none => .bad
    | some σ1 => match T σ1 with
      | .ok b σ2 => if b = true then (match (E σ2).bind toD with
          | .ok x σ3 => (match lcL vs g T E ds (wipeS σ3 vs) with
            | .ok xs σ4 => .ok (x :: xs) σ4
            | _ => .bad)
          | _ => .bad) else lcL vs g T E ds (wipeS σ2 vs)
      | _ => .bad
@[simp] def eLc (vs : List Nat) (It : S → Res (List D)) (g : G) (T : S → Res Bool) (E : S → Res R) (σ : S) : Res R := (It σ).bind fun ds σ1 => if noL σ1 vs = true then (match lcL vs g T E ds (wipeS σ1 vs) with
  | .ok xs σ2 => if xs.length ≤ sizeLine then .ok (.own xs) (backS σ1 σ2 vs) else .bad
  | _ => .bad) else .bad
@[simp] def tT (σ : S) : Res Bool := .ok true σ
abbrev W0 : WX := fun _ _ _ _ => False
abbrev DTs (X : Cx) (ifs : List Expr) (T : S → Res Bool) : Prop := PTs X ifs (rdT X.K X.mg W0 T)
theorem pts_weak {X : Cx} {e : List Expr} {t t' : TT} (h : PTs X e t) (w : ∀ σv H Q, t' σv H Q → t σv H Q) : PTs X e t' := ⟨fun pins s σ H Q I q => h.run pins s σ H Q I (w σ H Q q)⟩
theorem dts_nil {X : Cx} : DTs X [] tT := pts_weak pts_nil fun σv H Q ⟨σ, s, h⟩ => h true H (Step.refl s) rfl
theorem dts_one {X : Cx} {c : Expr} {T : S → Res Bool} (h : DT X W0 c T) : DTs X [c] T := pts_one h
theorem fzL_len {K : PySem.W.Frag} {H : Hp} {ds : List D} {vs : List V} (h : FzAll K H ds vs) : vs.length = ds.length := h.length.symm
section
variable {K : PySem.W.Frag} {mg : Str → Option Value} {W : WX} {It : S → Res (List D)} {g : G} {T : S → Res Bool} {E : S → Res R} {vs ws : List Nat}
theorem lc_post (hg : GOk vs g) {σv : L2.St} {H : Hp} {Q : VK} (h : rd K mg W (eLc vs It g T E) σv H Q) : tLc (rdI K mg W It) (rdG K vs g) (rdT K mg W0 T) (rd K mg W0 (eFrz E)) vs σv H Q := by
  obtain ⟨σ, s, h⟩ := h
  refine ⟨σ, s, ?_⟩
  unfold eLc at h
  cases ea : It σ with
  | bad => rw [ea] at h; exact False.elim h
  | exc c σ1 => rw [ea] at h; exact h
  | ok ds σ1 =>
    rw [ea] at h
    simp only [Res.bind] at h
    intro J H1 st ir Dn hD
    split at h
    · rename_i nl
      split at h
      · rename_i xs σ2 el
        split at h
        · rename_i hlen
          obtain ⟨G0, Y, w, hG, hY⟩ := ir
          have sw : SRel K H1 (wipeS σ1 vs) (wipe σv vs) := st.rel.wipe
          have sD : Same H1 (upd H1 Dn (.lst [])) := same_new hD
          refine lc_it (Qd := fun H' => Q (.ref Dn) H') w (fun i H' => ∃ σi acc ad rest, Step K H1 (wipeS σ1 vs) (wipe σv vs) H' σi ∧ H' Dn = some (.lst acc) ∧ FzAll K H' ad acc ∧ lcL vs g T E (ds.drop i) σi = .ok rest σ2 ∧ ad ++ rest = xs) ?_ (fun i H' hi ⟨σi, acc, ad, rest, st', _⟩ => hG H' (st'.imm sw)) ?_ ?_
          · exact ⟨wipeS σ1 vs, [], [], xs, Step.same sw sD, upd_same, FzAll.nil, el, rfl⟩
          · intro i x H' H'' hi ⟨σi, acc, ad, rest, st', hDn, hacc, el', ex⟩ y
            obtain ⟨d, ed, sm, hd⟩ := hY i H' x H'' (st'.imm sw) hi y
            have hdrop : ds.drop i = d :: ds.drop (i + 1) := by
              rw [List.drop_eq_getElem_cons hi]
              congr 1
              rw [List.getElem?_eq_getElem hi] at ed
              exact Option.some.inj ed
            rw [hdrop] at el'
            unfold lcL at el'
            have st2 := st'.trans (Step.same st'.rel sm)
            have hDn2 : H'' Dn = some (.lst acc) := sm _ _ hDn
            have hacc2 : FzAll K H'' ad acc := FzAll.mono (Same.imm sm) ad hacc
            split at el'
            · cases el'
            · rename_i σg eg
              refine ⟨σi, d, σg, st2.rel, hd, eg, fun σv2 lg lng og => ?_⟩
              have wv : wipe σv2 vs = wipe σv vs := by
                rw [← wipe_wipe (σ := σv)]
                exact wipe_eq lng og
              refine ⟨wv, σg, lg.rel, ?_⟩
              -- D is no slot's
              have noD : ∀ {a : Addr}, OwnM σg σv2 a → a ≠ Dn := fun {a} ho z => by
                subst z
                rcases lg.ownM ho with q | q
                · exact ownM_some sw (st2.sub.ownM q) hD
                · rw [hDn2] at q; cases q
              obtain ⟨ng, og2⟩ := hg _ _ _ eg
              -- from a later state of the turn to the next turn
              have next : ∀ {H3 : Hp} {σ3 : S}, Step K H'' σg σv2 H3 σ3 → Step K H1 (wipeS σ1 vs) (wipe σv vs) H3 (wipeS σ3 vs) := fun {H3 σ3} s3 => by
                refine ⟨st2.keep.trans s3.keep fun a o e z => ?_, ?_, ?_⟩
                · rcases lg.ownM z with q | q
                  · exact st2.sub.ownM q
                  · have := st2.keep.gone a q
                    rw [e] at this; cases this
                · rw [← wv]; exact s3.rel.wipe
                · have len : (wipeS σ1 vs).length = σ3.length := by rw [wipeS_len, st.rel.len, s3.rel.len, lng, wipe_length]
                  have : Sub (wipeS (wipeS σ1 vs) vs) (wipeS σ3 vs) := sub_wipe (fun j hj => by
                    have h1 := st2.sub j
                    have h2 := s3.sub j
                    rw [og2 j hj] at h2
                    exact h1.trans h2) len
                  have ww : wipeS (wipeS σ1 vs) vs = wipeS σ1 vs := by
                    apply List.ext_getElem?
                    intro j
                    by_cases hj : j ∈ vs
                    · by_cases hn : j < σ1.length
                      · rw [wipeS_in hj (by rw [wipeS_len]; exact hn), wipeS_in hj hn]
                      · rw [List.getElem?_eq_none (by rw [wipeS_len, wipeS_len]; omega), List.getElem?_eq_none (by rw [wipeS_len]; omega)]
                    · rw [wipeS_out hj]
                  rw [ww] at this
                  exact this
              have keepD : ∀ {H3 : Hp} {σ3 : S}, Step K H'' σg σv2 H3 σ3 → H3 Dn = some (.lst acc) := fun {H3 σ3} s3 => s3.keep.at hDn2 (fun z => noD z rfl) fun _ z => by cases z
              cases hT : T σg with
              | bad => rw [hT] at el'; cases el'
              | exc c σ3 => rw [hT] at el'; cases el'
              | ok b σ3 =>
                rw [hT] at el'
                intro b' H3 s3 eb
                subst eb
                cases b with
                | false =>
                  simp only [Bool.false_eq_true, if_false] at el' ⊢
                  exact ⟨_, acc, ad, rest, next s3, keepD s3, FzAll.mono (s3.imm lg.rel) ad hacc2, el', ex⟩
                | true =>
                  simp only [if_true] at el' ⊢
                  refine ⟨σ3, s3.rel, ?_⟩
                  unfold eFrz
                  cases hE : E σ3 with
                  | bad => rw [hE] at el'; cases el'
                  | exc c σ4 => rw [hE] at el'; cases el'
                  | ok r σ4 =>
                    rw [hE] at el'
                    simp only [Res.bind] at el' ⊢
                    rcases toD_cases r σ4 with ⟨x, σ5, ex5⟩ | ex5
                    · rw [ex5] at el' ⊢
                      simp only at el' ⊢
                      intro v H4 s4 hv
                      split at el'
                      · rename_i xs' σ6 e6
                        cases el'
                        have s34 := s3.trans s4
                        have hl : acc.length < sizeLine := by
                          rw [← hacc2.length]
                          have : xs.length = ad.length + (xs'.length + 1) := by rw [← ex]; simp
                          omega
                        have hDn4 := keepD s34
                        have im := imm_mut (vs' := acc ++ [v]) hDn4
                        refine ⟨acc, hDn4, hl, _, acc ++ [v], ad ++ [x], xs', ?_, upd_same, ?_, e6, by rw [← ex]; simp⟩
                        · have n := next s34
                          refine ⟨⟨fun b o e nb => ?_, fun b e => ?_⟩, ⟨n.rel.len, fun j c e => ?_, n.rel.apart, fun p hp => tab_upd (n.rel.tab p hp) hDn4 fun _ z => by cases z⟩, n.sub⟩
                          · have hb : b ≠ Dn := fun z => by rw [z, hD] at e; cases e
                            rw [upd_ne hb]
                            exact n.keep.kept b o e nb
                          · by_cases hb : b = Dn
                            · rw [hb]; exact hD
                            · rw [upd_ne hb] at e
                              exact n.keep.gone b e
                          · obtain ⟨u, e1, hc⟩ := n.rel.val j c e
                            refine ⟨u, e1, CRel.mono im (fun t ds p ec ep vs' q => ?_) hc⟩
                            subst ec ep
                            have hp : p ≠ Dn := fun z => by
                              subst z
                              have h0 := n.sub.at (σv := wipe σv vs) ⟨⟨ds, e⟩, e1⟩
                              obtain ⟨_, _, q0, _⟩ := sw.at_lst h0
                              rw [hD] at q0; cases q0
                            rw [upd_ne hp]
                            exact q
                        · exact (FzAll.mono ((s34.imm lg.rel).trans im) ad hacc2).append (FzAll.cons (Fz.mono im x hv) FzAll.nil)
                      · cases el'
                    · rw [ex5] at el'; cases el'
          · intro H' ⟨σi, acc, ad, rest, st', hDn, hacc, el', ex⟩
            rw [List.drop_eq_nil_of_le (Nat.le_refl _)] at el'
            unfold lcL at el'
            cases el'
            rw [List.append_nil] at ex
            subst ex
            have sb := Step.back st.rel nl st'
            exact h _ _ (st.trans sb) ⟨Dn, acc, rfl, st.keep.gone Dn hD, hDn, hacc⟩
        · exact False.elim h
      · exact False.elim h
    · exact False.elim h
end
section
variable {X : Cx} {W : WX} {elt tg iter : Expr} {ifs : List Expr} {scope : Scope} {own : List (Str × Nat)} {pos spos py : Pos} {It : S → Res (List D)} {g : G} {T : S → Res Bool} {E : S → Res R}
theorem de_lc (hc : X.calm = true) (hN : X.N.Nodup) (hi : DI X W tg iter It) (ok : BlkOk X.N X.env.scope scope own) (hk : GOk (own.map (·.2)) g)
    (hg : ∀ (s : Shared) (H : Hp) (C : Addr) (cl : List (Str × Addr)) (fp : List Addr), DG (X.blk s H scope (compEnvC scope cl C X.env) fp) tg (own.map (·.2)) g)
    (ht : ∀ (s : Shared) (H : Hp) (C : Addr) (cl : List (Str × Addr)) (fp : List Addr), DTs (X.blk s H scope (compEnvC scope cl C X.env) fp) ifs T)
    (he : ∀ (s : Shared) (H : Hp) (C : Addr) (cl : List (Str × Addr)) (fp : List Addr), DE (X.blk s H scope (compEnvC scope cl C X.env) fp) W0 elt E) (hs : ∀ x, foldedSetIterable iter X.env x = pure x := by intro _; rfl) :
    DE X W (.ListComp elt [⟨tg, iter, ifs, 0⟩] scope pos) (eLc (own.map (·.2)) It g T E) :=
  pe_weak (pe_lc hc hN hi ok hg ht (fun s H C cl fp => de_frz (he s H C cl fp)) hs) fun _ _ _ h => lc_post hk h
theorem ds_setLc {i : Nat} {y : Str} (hc : X.calm = true) (hN : X.N.Nodup) (hy : X.N[i]? = some y) (hyl : X.env.scope.names.lookup y = some .local) (hsw : swapsWith (.ListComp elt [⟨tg, iter, ifs, 0⟩] scope pos) (some (.Name y py)) spos.line X.env = pure true)
    (hi : DI X W tg iter It) (ok : BlkOk X.N X.env.scope scope own) (hk : GOk (own.map (·.2)) g)
    (hg : ∀ (s : Shared) (H : Hp) (C : Addr) (cl : List (Str × Addr)) (fp : List Addr), DG (X.blk s H scope (compEnvC scope cl C X.env) fp) tg (own.map (·.2)) g)
    (ht : ∀ (s : Shared) (H : Hp) (C : Addr) (cl : List (Str × Addr)) (fp : List Addr), DTs (X.blk s H scope (compEnvC scope cl C X.env) fp) ifs T)
    (he : ∀ (s : Shared) (H : Hp) (C : Addr) (cl : List (Str × Addr)) (fp : List Addr), DE (X.blk s H scope (compEnvC scope cl C X.env) fp) W0 elt E) (hs : ∀ x, foldedSetIterable iter X.env x = pure x := by intro _; rfl) :
    DS X W (.Assign [.Name y py] (.ListComp elt [⟨tg, iter, ifs, 0⟩] scope pos) spos) (sSet i (eLc (own.map (·.2)) It g T E)) :=
  ps_weak (ps_setLc hc hN hy hyl hsw hi ok hg ht (fun s H C cl fp => de_frz (he s H C cl fp)) hs) fun Dd σv H ⟨σ, s, h⟩ => by
    refine lc_post (W := W) (T := T) (E := E) hk ⟨σ, s, ?_⟩
    unfold sSet eMov at h
    cases ea : eLc (own.map (·.2)) It g T E σ with
    | bad => rw [ea] at h; exact False.elim h
    | exc c σ1 => rw [ea] at h; exact PostS.exc_of h
    | ok r σ1 =>
      rw [ea] at h
      intro v H' st rr
      have hr : ∃ ds, r = .own ds := by
        unfold eLc at ea
        obtain ⟨ds, σ2, _, ea⟩ := Res.bind_ok ea
        split at ea
        · split at ea
          · split at ea
            · cases ea; exact ⟨_, rfl⟩
            · cases ea
          · cases ea
        · cases ea
      obtain ⟨ds, rfl⟩ := hr
      simp only [Res.bind] at h
      split at h
      · rename_i σ2 e2
        exact h _ _ (store_res s st rr (fun j z => by cases z) e2)
      · exact False.elim h
end
end FL

set_option Elab.async false
set_option linter.all false
set_option maxRecDepth 100000
set_option maxHeartbeats 2000000
/-! FL: calls of defs, and defs. -/
namespace FL
open PySem PySem.Spec PyProof.Rows L2
abbrev Meaning := S → Res R
def ArgOK (cs : List C) : Prop := ∀ c ∈ cs, ∀ ds, c ≠ .l .own ds
def ParOk (K : PySem.W.Frag) (H' : Hp) (cs : List C) (vs : List V) (σ' : S) : Prop := ∀ (i : Nat) (ds : List D), cs[i]? = some (.l .par ds) → ∃ ds' a ws, σ'[i]? = some (some (.l .par ds')) ∧ vs[i]? = some (.ref a) ∧ H' a = some (.lst ws) ∧ FzAll K H' ds' ws
/-- a def by its meaning; ex: whether it may let an error out -/
def spD (K : PySem.W.Frag) (mg : Str → Option Value) (ex : Bool) (n : Nat) (m : Meaning) : Sp := fun vs H Q E => vs.length = n ∧ ∃ cs : List C, SRel K H (cs.map some) (vs.map some) ∧ ArgOK cs ∧ match m (cs.map some) with
  | .ok r σ' => ∀ v H', Keep (OwnM (cs.map some) (vs.map some)) H H' → ParOk K H' cs vs σ' → RNew K H H' r v → Q v H'
  | .exc c σ' => ex = true ∧ ∀ cls H', ECl mg c cls → Keep (OwnM (cs.map some) (vs.map some)) H H' → ParOk K H' cs vs σ' → E cls none H'
  | .bad => False
/-- a body's meaning, from that of its statements -/
@[simp] def funSem (n : Nat) (B : S → Out) : Meaning := fun σ => match B (σ ++ List.replicate (n - σ.length) none) with
  | .nx σ' => .ok (.d .none) σ'
  | .ret (.slot _) _ => .bad
  | .ret r σ' => .ok r σ'
  | .exc c σ' => .exc c σ'
  | _ => .bad
section
variable {K : PySem.W.Frag} {mg : Str → Option Value} {H H' : Hp}
theorem SRel.pad {σ : S} {σv : L2.St} (s : SRel K H σ σv) (n : Nat) : SRel K H (σ ++ List.replicate n none) (σv ++ List.replicate n none) := by
  have low : ∀ (i : Nat) (c : C), (σ ++ List.replicate n none)[i]? = some (some c) → i < σ.length ∧ σ[i]? = some (some c) := fun i c e => by
    by_cases hi : i < σ.length
    · rw [List.getElem?_append_left hi] at e; exact ⟨hi, e⟩
    · rw [List.getElem?_append_right (by omega), List.getElem?_replicate] at e
      split at e <;> cases e
  have at' : ∀ i t a, At (σ ++ List.replicate n none) (σv ++ List.replicate n none) i t a → At σ σv i t a := fun i t a ⟨⟨ds, e⟩, ev⟩ => by
    obtain ⟨hi, e⟩ := low i _ e
    rw [List.getElem?_append_left (by rw [← s.len]; exact hi)] at ev
    exact ⟨⟨ds, e⟩, ev⟩
  refine ⟨by rw [List.length_append, List.length_append, s.len, List.length_replicate, List.length_replicate], fun i c e => ?_, fun i j t u a h1 h2 => s.apart i j t u a (at' _ _ _ h1) (at' _ _ _ h2), s.tab⟩
  obtain ⟨hi, e⟩ := low i c e
  obtain ⟨v, e1, hc⟩ := s.val i c e
  exact ⟨v, by rw [List.getElem?_append_left (by rw [← s.len]; exact hi)]; exact e1, hc⟩
theorem ownM_pad {σ : S} {σv : L2.St} {n : Nat} (l : σ.length = σv.length) {a : Addr} (h : OwnM (σ ++ List.replicate n none) (σv ++ List.replicate n none) a) : OwnM σ σv a := by
  obtain ⟨i, t, nt, ⟨ds, e⟩, ev⟩ := h
  by_cases hi : i < σ.length
  · rw [List.getElem?_append_left hi] at e
    rw [List.getElem?_append_left (by rw [← l]; exact hi)] at ev
    exact ⟨i, t, nt, ⟨ds, e⟩, ev⟩
  · rw [List.getElem?_append_right (by omega), List.getElem?_replicate] at e
    split at e <;> cases e
/-- a body keeps what spD says -/
theorem body_ok {n k : Nat} {B : S → Out} {N : List Str} {vs : List V} {Q : VK} {E : XK} (hn : N.length = n) (h : spD K mg false k (funSem n B) vs H Q E) : rdS K mg W0 B { nx := fun _ H' => Q .non H', rt := Q } (start N vs) H := by
  obtain ⟨hl, cs, s, ao, h⟩ := h
  have lc : cs.length = vs.length := by have := s.len; simpa using this
  have es : start N vs = vs.map some ++ List.replicate (n - (cs.map some).length) none := by
    show vs.map some ++ List.replicate (N.length - vs.length) none = _
    rw [hn, List.length_map, lc]
  rw [es]
  have sp := s.pad (n - (cs.map some).length)
  refine ⟨_, sp, ?_⟩
  unfold funSem at h
  have keep : ∀ {H' : Hp} {σ' : S} {σv' : L2.St}, Later K H (cs.map some ++ List.replicate (n - (cs.map some).length) none) (vs.map some ++ List.replicate (n - (cs.map some).length) none) H' σ' σv' → Keep (OwnM (cs.map some) (vs.map some)) H H' :=
    fun {H' σ' σv'} l => l.keep.mono fun x o _ z => ownM_pad s.len z
  have low : ∀ (i : Nat) (c : C), cs[i]? = some c → (cs.map some ++ List.replicate (n - (cs.map some).length) none)[i]? = some (some c) := fun i c e => by
    have hi := (List.getElem?_eq_some_iff.mp e).1
    rw [List.getElem?_append_left (by rw [List.length_map]; exact hi), List.getElem?_map, e]
    rfl
  have par : ∀ {H' : Hp} {σ' : S} {σv' : L2.St}, Later K H (cs.map some ++ List.replicate (n - (cs.map some).length) none) (vs.map some ++ List.replicate (n - (cs.map some).length) none) H' σ' σv' → ParOk K H' cs vs σ' :=
    fun {H' σ' σv'} l i ds e => by
      obtain ⟨e1, ds', e2⟩ := l.par i ds (low i _ e)
      obtain ⟨v, q1, a, ws, rfl, q2, q3⟩ := l.rel.val i _ e2
      rw [e1] at q1
      have hi := (List.getElem?_eq_some_iff.mp e).1
      rw [List.getElem?_append_left (by rw [List.length_map, ← lc]; exact hi), List.getElem?_map] at q1
      obtain ⟨w, w1, w2⟩ := Option.map_eq_some_iff.mp q1
      injection w2 with w2
      subst w2
      exact ⟨ds', a, ws, e2, w1, q2, q3⟩
  split at h
  · rename_i r σ' e
    split at e
    · rename_i σ'' eb
      rw [eb]
      cases e
      exact fun σv' H' l => h .non H' (keep l) (par l) rfl
    · cases e
    · rename_i r' σ'' ns eb
      rw [eb]
      cases e
      intro v σv' H' l rr
      refine h v H' (keep l) (par l) ?_
      cases r with
      | d x => exact rr
      | own ds =>
        obtain ⟨a, ws, e, h1, h2, h3⟩ := rr
        refine ⟨a, ws, e, ?_, h1, h2⟩
        rcases h3 with ⟨j, ⟨es, q⟩, _⟩ | h3
        · exfalso
          by_cases hj : j < cs.length
          · rw [List.getElem?_append_left (by rw [List.length_map]; exact hj), List.getElem?_map, List.getElem?_eq_getElem hj] at q
            have q' : cs[j] = C.l .own es := by simpa using q
            exact ao _ (List.getElem_mem hj) es q'
          · rw [List.getElem?_append_right (by rw [List.length_map]; omega), List.getElem?_replicate] at q
            split at q <;> cases q
        · exact h3
      | slot i => exact False.elim rr
    · cases e
    · cases e
  · rename_i c σ' e
    cases h.1
  · exact False.elim h
end
section
variable {P : Program} {w : World} {K : PySem.W.Frag} {mg : Str → Option Value} {base : Heap} {x qual : Str} {params : Arguments} {body : List Stmt} {scope : Scope} {dvs : List V} {kws : List (Str × V)} {f : Addr} {fd : FuncData}
/-- THE RULE for a def that lets no error out -/
theorem fn_ok0 {N ps : List Str} {k n : Nat} {B : S → Out} (F : FunD K x qual params body scope dvs kws f fd) (Sc : FnScope N ps scope) (hn : N.length = n) (hp : ps.length ≤ N.length)
    (hbody : ∀ (cdv : Value) (A : Around) (outer : List Env) (s : Shared) (H : Hp) (E : XK), Room k (A.deeper (envOfC qual scope s.heap.objs.size f cdv)) → DSs (cxOf CX0 P w K mg base N qual scope f cdv A outer s H E).nox W0 body B) :
    FnOk P w K mg base CX0 (k + 1) f fd ps (spD K mg false ps.length (funSem n B)) :=
  F.ok Sc (fun vs H Q E h => h.1) fun cdv A outer s H vs Q E hr h => ⟨_, PSs.nox (hbody cdv A outer s H E hr), body_ok hn h⟩
end

/-! ### arguments -/
inductive Ar where
  | v (d : D)
  | m (i : Nat)
def ArAll (K : PySem.W.Frag) (H' : Hp) (σv : L2.St) : List Ar → List V → Prop
  | [], vs => vs = []
  | .v d :: as, vs => ∃ v w, vs = v :: w ∧ Fz K H' d v ∧ ArAll K H' σv as w
  | .m i :: as, vs => ∃ v w, vs = v :: w ∧ σv[i]? = some (some v) ∧ ArAll K H' σv as w
def rdM (K : PySem.W.Frag) (mg : Str → Option Value) (W : WX) (T : S → Res (List Ar)) : TA := fun σv H Q => ∃ σ, SRel K H σ σv ∧ Post K mg W (fun _ H' _ σv as vs => ArAll K H' σv as vs) H σ σv Q (T σ)
@[simp] def mNil (σ : S) : Res (List Ar) := .ok [] σ
@[simp] def mVal (E : S → Res R) (A : S → Res (List Ar)) (σ : S) : Res (List Ar) := (E σ).bind fun r σ1 => (toD r σ1).bind fun d σ2 => (A σ2).bind fun as σ3 => .ok (.v d :: as) σ3
@[simp] def mMut (E : S → Res R) (A : S → Res (List Ar)) (σ : S) : Res (List Ar) := (E σ).bind fun r σ1 => match r with
  | .d d => (A σ1).bind fun as σ3 => .ok (.v d :: as) σ3
  | .slot i => (A σ1).bind fun as σ3 => .ok (.m i :: as) σ3
  | .own _ => .bad
abbrev DM (X : Cx) (W : WX) (es : List Expr) (A : S → Res (List Ar)) : Prop := PA X es (rdM X.K X.mg W A)
section
variable {X : Cx} {W : WX} {e : Expr} {es : List Expr} {E : S → Res R} {A : S → Res (List Ar)} {pos p : Pos}
theorem dm_nil : DM X W [] mNil := pa_weak pa_nil fun σv H Q ⟨σ, s, h⟩ => h [] H (Step.refl s) rfl
theorem dm_val (ha : DE X W e E) (hr : DM X W es A) (hs : starEach (e :: es) X.env = (false, eval e X.env) :: starEach es X.env := by rfl) : DM X W (e :: es) (mVal E A) := by
  refine pa_weak (pa_cons (de_frz ha) hr hs) fun σv H Q ⟨σ, s, h⟩ => ⟨σ, s, ?_⟩
  unfold mVal at h
  unfold eFrz
  cases ea : E σ with
  | bad => rw [ea] at h; exact False.elim h
  | exc c σ1 => rw [ea] at h; exact h
  | ok r σ1 =>
    rw [ea] at h
    simp only [Res.bind] at h ⊢
    rcases toD_cases r σ1 with ⟨d, σ2, ed⟩ | ed
    · rw [ed] at h ⊢
      simp only at h ⊢
      intro v H1 st rr
      refine ⟨σ2, st.rel, ?_⟩
      cases ee : A σ2 with
      | bad => rw [ee] at h; exact False.elim h
      | exc c σ3 => rw [ee] at h; exact Post.exc_later h st
      | ok ds σ3 =>
        rw [ee] at h
        intro vs H2 st2 rr2
        exact h _ _ (st.trans st2) ⟨v, vs, rfl, Fz.mono (st2.imm st.rel) d rr, rr2⟩
    · rw [ed] at h
      exact False.elim h
theorem dm_mut (ha : DE X W e E) (hr : DM X W es A) (hs : starEach (e :: es) X.env = (false, eval e X.env) :: starEach es X.env := by rfl) : DM X W (e :: es) (mMut E A) := by
  refine pa_weak (pa_cons ha hr hs) fun σv H Q ⟨σ, s, h⟩ => ⟨σ, s, ?_⟩
  unfold mMut at h
  cases ea : E σ with
  | bad => rw [ea] at h; exact False.elim h
  | exc c σ1 => rw [ea] at h; exact h
  | ok r σ1 =>
    rw [ea] at h
    simp only [Res.bind] at h
    intro v H1 st rr
    refine ⟨σ1, st.rel, ?_⟩
    cases r with
    | own ds => exact False.elim h
    | d d =>
      simp only at h
      cases ee : A σ1 with
      | bad => rw [ee] at h; exact False.elim h
      | exc c σ3 => rw [ee] at h; exact Post.exc_later h st
      | ok ds σ3 =>
        rw [ee] at h
        intro vs H2 st2 rr2
        exact h _ _ (st.trans st2) ⟨v, vs, rfl, Fz.mono (st2.imm st.rel) d rr, rr2⟩
    | slot i =>
      simp only at h
      cases ee : A σ1 with
      | bad => rw [ee] at h; exact False.elim h
      | exc c σ3 => rw [ee] at h; exact Post.exc_later h st
      | ok ds σ3 =>
        rw [ee] at h
        intro vs H2 st2 rr2
        exact h _ _ (st.trans st2) ⟨v, vs, rfl, rr.1, rr2⟩
end
/-- the cells that the callee is given -/
@[simp] def mkC (σ : S) : Ar → Option C
  | .v d => some (.d d)
  | .m i => match σ[i]? with
    | some (some (.l t es)) => if t = .lck then none else some (.l .par es)
    | _ => none
@[simp] def mkL (σ : S) : List Ar → Option (List C)
  | [] => some []
  | a :: as => (mkC σ a).bind fun c => (mkL σ as).map fun cs => c :: cs
@[simp] def isM (i : Nat) : Ar → Bool
  | .m j => i == j
  | _ => false
@[simp] def nodupM : List Ar → Bool
  | [] => true
  | .v _ :: as => nodupM as
  | .m i :: as => !(as.any (isM i)) && nodupM as
@[simp] def mkCs (σ : S) (as : List Ar) : Option (List C) := if nodupM as = true then mkL σ as else none
@[simp] def putB : List Ar → S → S → Option S
  | [], _, σ => some σ
  | .v _ :: as, _ :: σ', σ => putB as σ' σ
  | .m i :: as, c :: σ', σ => match σ[i]?, c with
    | some (some (.l t _)), some (.l .par ds') => if t = .lck then none else putB as σ' (σ.set i (some (.l t ds')))
    | _, _ => none
  | _ :: _, [], _ => none
@[simp] def eCall (m : Meaning) (AM : S → Res (List Ar)) (σ : S) : Res R := (AM σ).bind fun as σ1 => match mkCs σ1 as with
  | none => .bad
  | some cs => match m (cs.map some) with
    | .ok r σ' => (match r with
      | .slot _ => .bad
      | r => (match putB as σ' σ1 with
        | some σ2 => .ok r σ2
        | none => .bad))
    | .exc c σ' => (match putB as σ' σ1 with
      | some σ2 => .exc c σ2
      | none => .bad)
    | .bad => .bad
theorem nodupM_inj : ∀ {as : List Ar}, nodupM as = true → ∀ {j k i : Nat}, as[j]? = some (.m i) → as[k]? = some (.m i) → j = k
  | [], _, _, _, _, h, _ => by simp at h
  | .v d :: as, h, 0, _, i, e, _ => by simp at e
  | .v d :: as, h, j + 1, 0, i, _, e => by simp at e
  | .v d :: as, h, j + 1, k + 1, i, e1, e2 => by
    have := nodupM_inj (as := as) h (j := j) (k := k) (i := i) (by simpa using e1) (by simpa using e2)
    omega
  | .m l :: as, h, 0, 0, i, _, _ => rfl
  | .m l :: as, h, 0, k + 1, i, e1, e2 => by
    exfalso
    have e1 : l = i := by simpa using e1
    subst e1
    have e2 : as[k]? = some (.m l) := by simpa using e2
    have h := (Bool.and_eq_true_iff.mp h).1
    have : as.any (isM l) = true := List.any_eq_true.mpr ⟨.m l, List.mem_of_getElem? e2, by simp [isM]⟩
    rw [this] at h
    cases h
  | .m l :: as, h, j + 1, 0, i, e1, e2 => by
    exfalso
    have e2 : l = i := by simpa using e2
    subst e2
    have e1 : as[j]? = some (.m l) := by simpa using e1
    have h := (Bool.and_eq_true_iff.mp h).1
    have : as.any (isM l) = true := List.any_eq_true.mpr ⟨.m l, List.mem_of_getElem? e1, by simp [isM]⟩
    rw [this] at h
    cases h
  | .m l :: as, h, j + 1, k + 1, i, e1, e2 => by
    have := nodupM_inj (as := as) (Bool.and_eq_true_iff.mp h).2 (j := j) (k := k) (i := i) (by simpa using e1) (by simpa using e2)
    omega
section
variable {K : PySem.W.Frag} {mg : Str → Option Value} {H H1 H' : Hp} {σ σ1 σ2 : S} {σv : L2.St}
theorem mkL_get : ∀ {as : List Ar} {cs : List C}, mkL σ as = some cs → cs.length = as.length ∧ ∀ (j : Nat) (a : Ar), as[j]? = some a → ∃ c, cs[j]? = some c ∧ mkC σ a = some c
  | [], cs, h => by cases h; exact ⟨rfl, fun j a e => by simp at e⟩
  | a :: as, cs, h => by
    obtain ⟨c, e1, h⟩ := Option.bind_eq_some_iff.mp h
    obtain ⟨r, e2, rfl⟩ := Option.map_eq_some_iff.mp h
    obtain ⟨l, g⟩ := mkL_get e2
    refine ⟨by simp [l], fun j b e => ?_⟩
    cases j with
    | zero =>
      have : a = b := by simpa using e
      subst this
      exact ⟨c, rfl, e1⟩
    | succ j =>
      obtain ⟨c', q1, q2⟩ := g j b (by simpa using e)
      exact ⟨c', by simpa using q1, q2⟩
theorem ArAll.get : ∀ {as : List Ar} {vs : List V}, ArAll K H σv as vs → as.length = vs.length ∧ ∀ (j : Nat) (a : Ar), as[j]? = some a → ∃ v, vs[j]? = some v ∧ (match a with | .v d => Fz K H d v | .m i => σv[i]? = some (some v))
  | [], vs, h => by rw [show vs = [] from h]; exact ⟨rfl, fun j a e => by simp at e⟩
  | .v d :: as, vs, h => by
    obtain ⟨v, w, rfl, h1, h2⟩ := h
    obtain ⟨l, g⟩ := ArAll.get h2
    refine ⟨by simp [l], fun j b e => ?_⟩
    cases j with
    | zero =>
      have : Ar.v d = b := by simpa using e
      subst this
      exact ⟨v, rfl, h1⟩
    | succ j =>
      obtain ⟨c', q1, q2⟩ := g j b (by simpa using e)
      exact ⟨c', by simpa using q1, q2⟩
  | .m i :: as, vs, h => by
    obtain ⟨v, w, rfl, h1, h2⟩ := h
    obtain ⟨l, g⟩ := ArAll.get h2
    refine ⟨by simp [l], fun j b e => ?_⟩
    cases j with
    | zero =>
      have : Ar.m i = b := by simpa using e
      subst this
      exact ⟨v, rfl, h1⟩
    | succ j =>
      obtain ⟨c', q1, q2⟩ := g j b (by simpa using e)
      exact ⟨c', by simpa using q1, q2⟩
/-- a cell of the callee's: whose it is -/
theorem cell_of {as : List Ar} {cs : List C} {vs : List V} (e : mkL σ as = some cs) (a : ArAll K H σv as vs) {j : Nat} {c : C} (h : cs[j]? = some c) : ∃ v, vs[j]? = some v ∧ ((∃ d, as[j]? = some (.v d) ∧ c = .d d ∧ Fz K H d v) ∨
    ∃ i t es, as[j]? = some (.m i) ∧ c = .l .par es ∧ σ[i]? = some (some (.l t es)) ∧ t ≠ .lck ∧ σv[i]? = some (some v)) := by
  obtain ⟨l1, g1⟩ := mkL_get e
  obtain ⟨l2, g2⟩ := a.get
  have hj : j < as.length := by rw [← l1]; exact (List.getElem?_eq_some_iff.mp h).1
  have ea : as[j]? = some as[j] := List.getElem?_eq_getElem hj
  obtain ⟨c', q1, q2⟩ := g1 j _ ea
  rw [h] at q1
  cases q1
  obtain ⟨v, w1, w2⟩ := g2 j _ ea
  refine ⟨v, w1, ?_⟩
  rw [ea]
  generalize as[j] = aj at q2 w2
  cases aj with
  | v d =>
    cases q2
    exact .inl ⟨d, rfl, rfl, w2⟩
  | m i =>
    simp only [mkC] at q2
    split at q2
    · rename_i t es ei
      split at q2
      · cases q2
      · rename_i nt
        cases q2
        exact .inr ⟨i, t, es, rfl, rfl, ei, nt, w2⟩
    · cases q2
theorem args_rel {as : List Ar} {cs : List C} {vs : List V} (s : SRel K H σ σv) (e : mkCs σ as = some cs) (a : ArAll K H σv as vs) :
    vs.length = as.length ∧ SRel K H (cs.map some) (vs.map some) ∧ ArgOK cs ∧ ∀ p, OwnM (cs.map some) (vs.map some) p → ∃ i t, Ar.m i ∈ as ∧ t ≠ .lck ∧ At σ σv i t p := by
  unfold mkCs at e
  split at e
  · rename_i nd
    obtain ⟨l1, g1⟩ := mkL_get e
    obtain ⟨l2, g2⟩ := a.get
    have un : ∀ {j : Nat} {c : C}, (cs.map some)[j]? = some (some c) → cs[j]? = some c := fun {j c} q => by
      rw [List.getElem?_map] at q
      obtain ⟨x, q1, q2⟩ := Option.map_eq_some_iff.mp q
      cases q2
      exact q1
    have unv : ∀ {j : Nat} {c : V}, (vs.map some)[j]? = some (some c) → vs[j]? = some c := fun {j c} q => by
      rw [List.getElem?_map] at q
      obtain ⟨x, q1, q2⟩ := Option.map_eq_some_iff.mp q
      cases q2
      exact q1
    have atC : ∀ j t p, At (cs.map some) (vs.map some) j t p → ∃ i t', as[j]? = some (.m i) ∧ t' ≠ .lck ∧ At σ σv i t' p := fun j t p ⟨⟨ds, q⟩, qv⟩ => by
      obtain ⟨v, w1, w2⟩ := cell_of e a (un q)
      rw [unv qv] at w1
      cases w1
      rcases w2 with ⟨d, _, q, _⟩ | ⟨i, t', es, q1, q2, q3, q4, q5⟩
      · cases q
      · exact ⟨i, t', q1, q4, ⟨es, q3⟩, q5⟩
    refine ⟨l2.symm, ⟨by rw [List.length_map, List.length_map, l1, l2], fun j c q => ?_, fun j k t u p h1 h2 => ?_, s.tab⟩, fun c hc ds z => ?_, fun p ⟨j, t, nt, h⟩ => ?_⟩
    · obtain ⟨v, w1, w2⟩ := cell_of e a (un q)
      refine ⟨v, by rw [List.getElem?_map, w1]; rfl, ?_⟩
      rcases w2 with ⟨d, _, rfl, hd⟩ | ⟨i, t', es, q1, rfl, q3, q4, q5⟩
      · exact hd
      · obtain ⟨v', z1, z2⟩ := s.val i _ q3
        rw [q5] at z1
        have : v = v' := by injection z1 with z1; injection z1
        subst this
        exact z2
    · obtain ⟨i, t', e1, _, a1⟩ := atC j t p h1
      obtain ⟨i', t'', e2, _, a2⟩ := atC k u p h2
      have := s.apart _ _ _ _ _ a1 a2
      subst this
      exact nodupM_inj nd e1 e2
    · subst z
      obtain ⟨j, hj⟩ := List.mem_iff_getElem?.mp hc
      obtain ⟨v, w1, w2⟩ := cell_of e a hj
      rcases w2 with ⟨d, _, q, _⟩ | ⟨i, t', es, q1, q2, _⟩
      · cases q
      · cases q2
    · obtain ⟨i, t', e1, nt', a1⟩ := atC j t p h
      exact ⟨i, t', List.mem_of_getElem? e1, nt', a1⟩
  · cases e
theorem put_step (s : SRel K H σ1 σv) : ∀ (as : List Ar) (σ' : S) (σ σ2 : S) (vs : List V) (cs : List C), putB as σ' σ = some σ2 → Sub σ1 σ → σ.length = σv.length → ArAll K H σv as vs →
    (∀ (j : Nat) (i : Nat), as[j]? = some (.m i) → ∃ es, cs[j]? = some (.l .par es)) → ParOk K H' cs vs σ' →
    (∀ (j : Nat) (c : C), σ[j]? = some (some c) → (∃ v, σv[j]? = some (some v) ∧ CRel K H' c v) ∨ Ar.m j ∈ as) →
    Sub σ1 σ2 ∧ σ2.length = σv.length ∧ ∀ (j : Nat) (c : C), σ2[j]? = some (some c) → ∃ v, σv[j]? = some (some v) ∧ CRel K H' c v
  | [], σ', σ, σ2, vs, cs, e, su, hl, aa, hc, po, h => by
    cases e
    exact ⟨su, hl, fun j c q => (h j c q).elim id fun z => by cases z⟩
  | .v d :: as, [], σ, σ2, vs, cs, e, _, _, _, _, _, _ => by cases e
  | .m i :: as, [], σ, σ2, vs, cs, e, _, _, _, _, _, _ => by cases e
  | .v d :: as, c0 :: σ', σ, σ2, vs, cs, e, su, hl, aa, hc, po, h => by
    obtain ⟨v, w, rfl, _, aa⟩ := aa
    refine put_step s as σ' σ σ2 w cs.tail e su hl aa (fun j i q => ?_) (fun j ds q => ?_) fun j c q => (h j c q).elim .inl fun z => .inr ?_
    · obtain ⟨es, q2⟩ := hc (j + 1) i (by simpa using q)
      exact ⟨es, by rw [List.getElem?_tail]; exact q2⟩
    · obtain ⟨ds', a, ws, q1, q2, q3, q4⟩ := po (j + 1) ds (by rw [List.getElem?_tail] at q; exact q)
      exact ⟨ds', a, ws, by simpa using q1, by simpa using q2, q3, q4⟩
    · rcases List.mem_cons.mp z with z | z
      · cases z
      · exact z
  | .m i :: as, c0 :: σ', σ, σ2, vs, cs, e, su, hl, aa, hc, po, h => by
    obtain ⟨v, w, rfl, ev, aa⟩ := aa
    unfold putB at e
    split at e
    · rename_i t es0 ds' ei
      split at e
      · cases e
      rename_i ntl
      obtain ⟨es, q0⟩ := hc 0 i rfl
      obtain ⟨ds'', a, ws, q1, q2, q3, q4⟩ := po 0 es q0
      have q1 : ds'' = ds' := by
        have : (some (C.l .par ds')) = some (C.l .par ds'') := by simpa using q1
        cases this
        rfl
      subst q1
      have q2 : v = .ref a := by simpa using q2
      subst q2
      refine put_step s as σ' (σ.set i (some (.l t ds''))) σ2 w cs.tail e (su.trans fun j => ?_) (by rw [List.length_set]; exact hl) aa (fun j i q => ?_) (fun j ds q => ?_) fun j c q => ?_
      · by_cases hj : j = i
        · subst hj
          rw [ei, get_set ei]
          obtain ⟨ds1, e1⟩ := (su j).mut ei
          cases t with
          | own => exact .inl ⟨_, rfl⟩
          | par => exact ⟨_, rfl⟩
          | lck => exact absurd rfl ntl
        · rw [List.getElem?_set_ne (Ne.symm hj)]
          exact SubC.refl _
      · obtain ⟨es, q2⟩ := hc (j + 1) i (by simpa using q)
        exact ⟨es, by rw [List.getElem?_tail]; exact q2⟩
      · obtain ⟨ds', a, ws, q1, q2, q3, q4⟩ := po (j + 1) ds (by rw [List.getElem?_tail] at q; exact q)
        exact ⟨ds', a, ws, by simpa using q1, by simpa using q2, q3, q4⟩
      · by_cases hj : j = i
        · subst hj
          rw [get_set ei] at q
          cases q
          exact .inl ⟨_, ev, a, ws, rfl, q3, q4⟩
        · rw [List.getElem?_set_ne (Ne.symm hj)] at q
          rcases h j c q with z | z
          · exact .inl z
          · rcases List.mem_cons.mp z with z | z
            · cases z; exact absurd rfl hj
            · exact .inr z
    · cases e
/-- behind a call -/
theorem call_step {as : List Ar} {cs : List C} {vs : List V} {σ' : S} (s : SRel K H σ1 σv) (e : mkCs σ1 as = some cs) (a : ArAll K H σv as vs) (kp : Keep (OwnM (cs.map some) (vs.map some)) H H') (po : ParOk K H' cs vs σ') (ep : putB as σ' σ1 = some σ2) :
    Step K H σ1 σv H' σ2 := by
  obtain ⟨_, sr, _, ow⟩ := args_rel s e a
  have keep : Keep (OwnM σ1 σv) H H' := kp.mono fun p o _ z => by
    obtain ⟨i, t, _, nt, h⟩ := ow p z
    exact ⟨i, t, nt, h⟩
  have im := s.imm keep
  have e2 : mkL σ1 as = some cs := by
    unfold mkCs at e
    split at e
    · exact e
    · cases e
  obtain ⟨l1, g1⟩ := mkL_get e2
  obtain ⟨su, hl, hv⟩ := put_step (K := K) (H := H) (H' := H') s as σ' σ1 σ2 vs cs ep (Sub.refl _) s.len a (fun j i q => by
    obtain ⟨c, q1, q2⟩ := g1 j _ q
    obtain ⟨v, w1, w2⟩ := cell_of e2 a q1
    rcases w2 with ⟨d, q3, _, _⟩ | ⟨i', t', es, _, q4, _⟩
    · rw [q] at q3; cases q3
    · exact ⟨es, by rw [q1, q4]⟩) po fun j c q => by
      by_cases hm : Ar.m j ∈ as
      · exact .inr hm
      · refine .inl ?_
        obtain ⟨v, e1, hc⟩ := s.val j c q
        refine ⟨v, e1, CRel.mono im (fun t ds p ec ev ws hp => ?_) hc⟩
        subst ec ev
        refine kp.at hp (fun z => ?_) fun _ z => by cases z
        obtain ⟨i, t', hi, _, h⟩ := ow p z
        have := s.apart _ _ _ _ _ h ⟨⟨ds, q⟩, e1⟩
        subst this
        exact hm hi
  exact ⟨keep, ⟨hl, hv, fun i j t u p h1 h2 => s.apart _ _ _ _ _ (su.at h1) (su.at h2), fun p hp => keep.tab (fun z => by
    obtain ⟨i, t, _, h⟩ := z
    obtain ⟨vs0, _, q, _⟩ := s.at_lst h
    obtain ⟨ps, e, _⟩ := s.tab p hp
    rw [q] at e
    cases e) (s.tab p hp)⟩, su⟩
end
section
variable {X : Cx} {W : WX} {e : Expr} {es : List Expr} {AM : S → Res (List Ar)} {p pos : Pos} {CX : CXT} {k : Nat} {f : Addr} {fd : FuncData} {ps : List Str} {ex : Bool} {n : Nat} {m : Meaning} {x : Str}
theorem de_call (F : FnOk X.prog X.w X.K X.mg X.base CX k f fd ps (spD X.K X.mg ex (e :: es).length m)) (hr : Room k X.A) (hg : Gl X x) (hm : X.mg x = some (.ref f)) (hk : PySem.W.keepIn X.K (.ref f) = true) (hb : Binds X.K fd ps []) (hx : ∀ σ, PassesAt CX X σ (WE W σ))
    (hex : ex = true ∨ ex = false) (hal : ∀ σ as σ1, AM σ = .ok as σ1 → as.length = (e :: es).length)
    (ha : DM X W (e :: es) AM) (hdb : (x == ("__debug__" : Str)) = false := by decide) (he : starEach (e :: es) X.env = (false, eval e X.env) :: starEach es X.env := by rfl) (hpl : (backTo pos (starEach es X.env)).any (·.1) = false := by rfl)
    (hexc : ex = false → ∀ cs c σ', m cs ≠ .exc c σ') : DE X W (.Call (.Name x p) (e :: es) [] pos) (eCall m AM) :=
  pe_weak (pe_callS F hr hg hm hk hb hx ha hdb he hpl) fun σv H Q ⟨σ, s, h⟩ => by
    refine ⟨σ, s, ?_⟩
    unfold eCall at h
    cases ea : AM σ with
    | bad => rw [ea] at h; exact False.elim h
    | exc c σ1 => rw [ea] at h; exact h
    | ok as σ1 =>
      rw [ea] at h
      simp only [Res.bind] at h
      intro vs H1 st ra
      split at h
      · exact False.elim h
      · rename_i cs ecs
        obtain ⟨lv, sr, ao, ow⟩ := args_rel st.rel ecs ra
        refine ⟨by rw [lv]; exact hal σ as σ1 ea, cs, sr, ao, ?_⟩
        cases em : m (cs.map some) with
        | bad => rw [em] at h; exact False.elim h
        | exc c σ' =>
          rw [em] at h
          simp only at h ⊢
          split at h
          · rename_i σ2 ep
            refine ⟨?_, fun cls H' ec kp po => ?_⟩
            · rcases hex with q | q
              · exact q
              · exact absurd em (hexc q _ _ _)
            · exact h cls H' ec (st.trans (call_step st.rel ecs ra kp po ep))
          · exact False.elim h
        | ok r σ' =>
          rw [em] at h
          simp only at h ⊢
          intro v H' kp po rn
          cases r with
          | slot i => exact False.elim rn
          | d x =>
            simp only at h
            split at h
            · rename_i σ2 ep
              exact h v H' (st.trans (call_step st.rel ecs ra kp po ep)) rn
            · exact False.elim h
          | own ds =>
            simp only at h
            split at h
            · rename_i σ2 ep
              refine h v H' (st.trans (call_step st.rel ecs ra kp po ep)) ?_
              obtain ⟨a, ws, e1, h0, h1, h2⟩ := rn
              exact ⟨a, ws, e1, st.keep.gone a h0, h1, h2⟩
            · exact False.elim h
end
end FL

set_option Elab.async false
set_option linter.all false
set_option maxRecDepth 100000
set_option maxHeartbeats 2000000
/-! FL: defs that let no error out; constants; the head. -/
namespace FL
open PySem PySem.Spec PyProof.Rows L2
/-- what the caller sees behind: the lent lists alone -/
@[simp] def cut : S → S → S
  | some (.l .par _) :: σ, c :: σ' => c :: cut σ σ'
  | _ :: σ, _ :: σ' => none :: cut σ σ'
  | _ :: σ, [] => none :: cut σ []
  | [], _ => []
theorem cut_at : ∀ (σ σ' : S) (i : Nat) (ds : List D), σ[i]? = some (some (.l .par ds)) → i < σ'.length → (cut σ σ')[i]? = σ'[i]?
  | [], σ', i, ds, h, _ => by simp at h
  | c :: σ, [], i, ds, h, hl => by simp at hl
  | c :: σ, c' :: σ', 0, ds, h, _ => by
    have h : c = some (.l .par ds) := by simpa using h
    subst h
    rfl
  | c :: σ, c' :: σ', i + 1, ds, h, hl => by
    have ih := cut_at σ σ' i ds (by simpa using h) (by simpa using hl)
    have e : (cut (c :: σ) (c' :: σ'))[i + 1]? = (cut σ σ')[i]? := by
      match c with
      | some (.l .par _) => rfl
      | some (.l .own _) => rfl
      | some (.l .lck _) => rfl
      | some (.d _) => rfl
      | none => rfl
    rw [e, ih]
    rfl
@[simp] def funSem0 (n : Nat) (B : S → Out) : Meaning := fun σ => match funSem n B σ with
  | .ok r σ' => .ok r (cut σ σ')
  | _ => .bad
theorem spD_cut {K : PySem.W.Frag} {mg : Str → Option Value} {n k : Nat} {B : S → Out} {vs : List V} {H : Hp} {Q : VK} {E : XK} (h : spD K mg false k (funSem0 n B) vs H Q E) : spD K mg false k (funSem n B) vs H Q E := by
  obtain ⟨hl, cs, s, ao, h⟩ := h
  refine ⟨hl, cs, s, ao, ?_⟩
  unfold funSem0 at h
  cases e : funSem n B (cs.map some) with
  | bad => rw [e] at h; exact h
  | exc c σ' => rw [e] at h; exact False.elim h
  | ok r σ' =>
    rw [e] at h
    refine fun v H' kp po rn => h v H' kp (fun i ds q => ?_) rn
    obtain ⟨ds', a, ws, q1, q2⟩ := po i ds q
    exact ⟨ds', a, ws, by rw [cut_at _ _ i ds (by rw [List.getElem?_map, q]; rfl) (List.getElem?_eq_some_iff.mp q1).1]; exact q1, q2⟩
theorem funSem0_noexc {n : Nat} {B : S → Out} : ∀ cs c σ', funSem0 n B cs ≠ .exc c σ' := fun cs c σ' z => by
  unfold funSem0 at z
  split at z <;> cases z
section
variable {P : Program} {w : World} {K : PySem.W.Frag} {mg : Str → Option Value} {base : Heap} {x qual : Str} {params : Arguments} {body : List Stmt} {scope : Scope} {dvs : List V} {kws : List (Str × V)} {f : Addr} {fd : FuncData}
/-- THE RULE for a def that lets no error out; its code object and that one's table -/
theorem fn_ok {N ps : List Str} {k n : Nat} {B : S → Out} (F : FunD K x qual params body scope dvs kws f fd) (Tb : ∃ c T, fd.code = .ref c ∧ (c, T) ∈ tabs K) (Sc : FnScope N ps scope)
    (hbody : ∀ (c T : Addr) (A : Around) (outer : List Env) (s : Shared) (H : Hp) (E : XK), (c, T) ∈ tabs K → Room k (A.deeper (envOfC qual scope s.heap.objs.size f (.ref c))) → DSs (cxOf CX0 P w K mg base N qual scope f (.ref c) A outer s H E).nox W0 body B) (hn : N.length = n := by rfl) (hp : ps.length ≤ N.length := by decide) :
    FnOk P w K mg base CX0 (k + 1) f fd ps (spD K mg false ps.length (funSem0 n B)) := by
  obtain ⟨oc, od, dV, kV, doc, pm, an, cdv, ct, osl, rfl, lk, hcd, _, _⟩ := F.ex
  obtain ⟨c, T, ec, hin⟩ := Tb
  have ec : cdv = .ref c := ec
  subst ec
  exact (fn_of lk hcd Sc (fun vs H Q E h => h.1) fun A outer s H vs Q E hr h => ⟨_, PSs.nox (hbody c T A outer s H E hin hr), body_ok hn h⟩ : FnOk P w K mg base CX0 (k + 1) f _ ps (spD K mg false ps.length (funSem n B))).imp fun _ _ _ _ h => spD_cut h
theorem pss_frz {X : Cx} {e : List Stmt} {t : TS} (h : PSs X e t) : PSs X e (fun Dd σ H => ∃ a xs, H a = some (.lst xs) ∧ ∀ o, t Dd σ (upd H a (.frz o (.lst xs)))) := ⟨fun pins s σ H Dd I ⟨a, xs, e, q⟩ => by
  obtain ⟨o, I2⟩ := inv_frz I e
  exact h.run pins s σ _ Dd I2 (q o)⟩
/-- the law's promise: its list may be tracked as one that changes -/
def spL (K : PySem.W.Frag) (mg : Str → Option Value) (n : Nat) (m : Meaning) : Sp := fun vs H Q E => spD K mg false n m vs H Q E ∨ (vs.length = n ∧ ∃ a xs, H a = some (.lst xs) ∧ ∀ o, spD K mg false n m vs (upd H a (.frz o (.lst xs))) Q E)
theorem fn_okL {N ps : List Str} {k n : Nat} {B : S → Out} (F : FunD K x qual params body scope dvs kws f fd) (Tb : ∃ c T, fd.code = .ref c ∧ (c, T) ∈ tabs K) (Sc : FnScope N ps scope)
    (hbody : ∀ (c T : Addr) (A : Around) (outer : List Env) (s : Shared) (H : Hp) (E : XK), (c, T) ∈ tabs K → Room k (A.deeper (envOfC qual scope s.heap.objs.size f (.ref c))) → DSs (cxOf CX0 P w K mg base N qual scope f (.ref c) A outer s H E).nox W0 body B) (hn : N.length = n := by rfl) (hp : ps.length ≤ N.length := by decide) :
    FnOk P w K mg base CX0 (k + 1) f fd ps (spL K mg ps.length (funSem0 n B)) := by
  obtain ⟨oc, od, dV, kV, doc, pm, an, cdv, ct, osl, rfl, lk, hcd, _, _⟩ := F.ex
  obtain ⟨c, T, ec, hin⟩ := Tb
  have ec : cdv = .ref c := ec
  subst ec
  refine fn_of lk hcd Sc (fun vs H Q E h => h.elim (fun h => h.1) fun h => h.1) fun A outer s H vs Q E hr h => ?_
  rcases h with h | ⟨_, a, xs, e, h⟩
  · exact ⟨_, PSs.nox (hbody c T A outer s H E hin hr), body_ok hn (spD_cut h)⟩
  · exact ⟨_, pss_frz (PSs.nox (hbody c T A outer s H E hin hr)), a, xs, e, fun o => body_ok hn (spD_cut (h o))⟩
/-- a def that cannot be called -/
theorem fn_none {ps : List Str} {k : Nat} {m : Meaning} (h : ∀ σ, m σ = .bad) : FnOk P w K mg base CX0 k f fd ps (spD K mg false ps.length m) :=
  ⟨fun vs H Q E h => h.1, fun A outer s H args us vs Q E hr e0 hb r sp => by
    obtain ⟨_, cs, _, _, z⟩ := sp
    rw [h] at z
    exact False.elim z⟩
end
theorem al_nil {σ σ1 : S} {as : List Ar} (h : mNil σ = .ok as σ1) : as.length = 0 := by cases h; rfl
def AL (A : S → Res (List Ar)) (n : Nat) : Prop := ∀ σ as σ1, A σ = .ok as σ1 → as.length = n
theorem al0 : AL mNil 0 := fun σ as σ1 h => al_nil h
theorem alV {E : S → Res R} {A : S → Res (List Ar)} {n : Nat} (h : AL A n) : AL (mVal E A) (n + 1) := fun σ as σ1 e => by
  unfold mVal at e
  obtain ⟨r, σ2, _, e⟩ := Res.bind_ok e
  obtain ⟨d, σ3, _, e⟩ := Res.bind_ok e
  obtain ⟨as', σ4, e4, e⟩ := Res.bind_ok e
  cases e
  rw [List.length_cons, h _ _ _ e4]
theorem alM {E : S → Res R} {A : S → Res (List Ar)} {n : Nat} (h : AL A n) : AL (mMut E A) (n + 1) := fun σ as σ1 e => by
  unfold mMut at e
  obtain ⟨r, σ2, _, e⟩ := Res.bind_ok e
  cases r with
  | own ds => cases e
  | d d =>
    obtain ⟨as', σ4, e4, e⟩ := Res.bind_ok e
    cases e
    rw [List.length_cons, h _ _ _ e4]
  | slot i =>
    obtain ⟨as', σ4, e4, e⟩ := Res.bind_ok e
    cases e
    rw [List.length_cons, h _ _ _ e4]
section
variable {X : Cx} {e : Expr} {es : List Expr} {AM : S → Res (List Ar)} {p pos : Pos} {k : Nat} {f : Addr} {fd : FuncData} {ps : List Str} {B : S → Out} {x : Str} {W : WX}
theorem pass00 {σ : L2.St} : PassesAt CX0 X σ (WE W σ) := fun _ _ _ _ _ _ h => h.elim
/-- a call of a def that lets no error out -/
theorem de_call0 {m : Meaning} (F : FnOk X.prog X.w X.K X.mg X.base CX0 k f fd ps (spD X.K X.mg false ps.length m)) (hne : ∀ cs c σ', m cs ≠ .exc c σ') (hr : Room k X.A) (hm : X.mg x = some (.ref f)) (hk : PySem.W.keepIn X.K (.ref f) = true) (hb : Binds X.K fd ps [])
    (ha : DM X W (e :: es) AM) (hal : AL AM ps.length) (hlen : (e :: es).length = ps.length := by rfl) (hg : Gl X x := by rfl) (hdb : (x == ("__debug__" : Str)) = false := by decide) (he : starEach (e :: es) X.env = (false, eval e X.env) :: starEach es X.env := by rfl) (hpl : (backTo pos (starEach es X.env)).any (·.1) = false := by rfl) :
    DE X W (.Call (.Name x p) (e :: es) [] pos) (eCall m AM) :=
  de_call (ex := false) (by rw [hlen]; exact F) hr hg hm hk hb (fun _ => pass00) (.inr rfl) (by rw [hlen]; exact hal) ha hdb he hpl fun _ => hne
theorem de_gint {i : Int} {t : Tok} (hm : X.mg x = some (.int i t)) (hg : Gl X x := by rfl) (hd : (x == ("__debug__" : Str)) = false := by decide) : DE X W (.Name x pos) (eC (.int i)) := de_of_const (pe_glob (v := .int i) hg hm ⟨t, rfl⟩ hd) (fun _ _ _ q => q) fun _ _ => rfl
theorem de_gstr {i : Str} {t : Tok} (hm : X.mg x = some (.str i t)) (hg : Gl X x := by rfl) (hd : (x == ("__debug__" : Str)) = false := by decide) : DE X W (.Name x pos) (eC (.str i)) := de_of_const (pe_glob (v := .str i) hg hm ⟨t, rfl⟩ hd) (fun _ _ _ q => q) fun _ _ => rfl
end

/-! ### the head -/
def noLst (K : PySem.W.Frag) : Bool := K.all fun p => match p.2.cls with
  | .type c => c != "list"
  | _ => true
def NoL (K : PySem.W.Frag) : Prop := ∀ a o, K.lookup a = some o → o.cls ≠ .type "list"
theorem mem_lookup : ∀ {K : PySem.W.Frag} {a : Addr} {o : Obj}, K.lookup a = some o → (a, o) ∈ K
  | [], _, _, h => by cases h
  | (b, u) :: K, a, o, h => by
    unfold List.lookup at h
    by_cases hb : (a == b) = true
    · rw [hb] at h
      cases h
      rw [eq_of_beq hb]
      exact List.mem_cons_self
    · have hb' : (a == b) = false := by simpa using hb
      rw [hb'] at h
      exact List.mem_cons_of_mem _ (mem_lookup h)
theorem noLst_ok {K : PySem.W.Frag} (h : noLst K = true) : NoL K := fun a o e z => by
  have := List.all_eq_true.mp h _ (mem_lookup e)
  simp only [z] at this
  exact absurd this (by decide)
abbrev AlL : Type := Bool × He.AlD
/-- an object that is no table -/
def noTab (p : Addr × Obj) : Bool := match p.2.cls with
  | .none => false
  | _ => true
def frT (g : Addr → Option Obj) (n : Nat) : PySem.W.Frag := (He.frG g (He.asD g n)).filter noTab
theorem frG_mem {g : Addr → Option Obj} : ∀ {as : List Addr} {a : Addr} {o : Obj}, (a, o) ∈ He.frG g as → g a = some o := fun {as a o} h => by
  unfold He.frG at h
  obtain ⟨b, _, e⟩ := List.mem_filterMap.mp h
  cases hb : g b with
  | none => rw [hb] at e; cases e
  | some u => rw [hb] at e; cases e; exact hb
theorem frT_at {g : Addr → Option Obj} {n : Nat} {a : Addr} {o : Obj} (h : (frT g n).lookup a = some o) : g a = some o := frG_mem (List.mem_filter.mp (mem_lookup h)).1
/-- the empty table -/
def emptyTab (o : Option Obj) : Bool := match o with
  | some ⟨.none, none, .fields vs, sl⟩ => vs.toList.isEmpty && sl.toList.isEmpty
  | _ => false
theorem emptyTab_ok {o : Option Obj} (h : emptyTab o = true) : o = some { cls := .none, data := .fields #[] } := by
  unfold emptyTab at h
  split at h
  · rename_i vs sl
    obtain ⟨h1, h2⟩ := Bool.and_eq_true_iff.mp h
    obtain ⟨vs⟩ := vs
    obtain ⟨sl⟩ := sl
    have e1 : vs = [] := by simpa using h1
    have e2 : sl = [] := by simpa using h2
    rw [e1, e2]
  · cases h
def codeB (o : Option Obj) (c P : Addr) : Bool := match o with
  | some ⟨.type n, _, .fields vs, _⟩ => n == "code" && (match vs[11]? with
      | some (Value.ref Q) => Q == P
      | _ => false) && (match vs.getD 11 .none with
      | .ref Q => Q == P
      | _ => false) && (match vs.getD 18 .none, vs.getD 7 .none, vs.getD 9 .none, vs.getD 10 .none with
      | .str _ _, .int _ _, .bool _, .int _ _ => true
      | _, _, _, _ => false) && c != P
  | _ => false
theorem codeB_ok {h : Heap} {o : Option Obj} {c P : Addr} (b : codeB o c P = true) (e : h.get? c = o) : PySem.W.CodeHd h c P := by
  unfold codeB at b
  split at b
  · rename_i n d vs sl
    simp only [Bool.and_eq_true] at b
    obtain ⟨⟨⟨⟨b1, b2⟩, b3⟩, b4⟩, b5⟩ := b
    have e1 : n = "code" := by simpa using b1
    subst e1
    split at b2
    · rename_i Q hQ
      have e2 : Q = P := by simpa using b2
      subst e2
      split at b3
      · rename_i Q' hQ'
        have e3 : Q' = Q := by simpa using b3
        subst e3
        split at b4
        · rename_i w1 w2 w3 w4 w5 w6 w7 q1 q2 q3 q4
          exact ⟨_, vs, _, _, _, _, _, _, _, e, rfl, rfl, hQ, hQ', q1, q2, q3, q4, by simpa using b5⟩
        · cases b4
      · cases b3
    · cases b2
  · cases b
def tabsB (g : Addr → Option Obj) (K : PySem.W.Frag) : Bool := (tabs K).all fun p => emptyTab (g p.2) && (K.lookup p.2).isNone && codeB (g p.1) p.1 p.2
def codeT (K : PySem.W.Frag) (d : He.DefD) : Bool := match K.lookup (He.fAd K d.at_) with
  | some ⟨_, _, .func fd, _⟩ => (match fd.code with
    | .ref c => (tabs K).any fun p => p.1 == c
    | _ => false)
  | _ => false
theorem codeT_ok {K : PySem.W.Frag} {d : He.DefD} (h : codeT K d = true) {x qual : Str} {params : Arguments} {body : List Stmt} {scope : Scope} {dvs : List V} {kws : List (Str × V)} {fd : FuncData} (F : FunD K x qual params body scope dvs kws (He.fAd K d.at_) fd) : ∃ c T, fd.code = .ref c ∧ (c, T) ∈ tabs K := by
  obtain ⟨oc, od, dV, kV, doc, pm, an, cdv, ct, osl, _, lk, _⟩ := F.ex
  unfold codeT at h
  rw [lk] at h
  simp only at h
  split at h
  · rename_i c ec
    obtain ⟨p, hp, e⟩ := List.any_eq_true.mp h
    have e : p.1 = c := by simpa using e
    exact ⟨c, p.2, ec, by rw [← e]; exact hp⟩
  · cases h
def TabsAt (K : PySem.W.Frag) (h : Heap) : Prop := ∀ p ∈ tabs K, h.get? p.2 = some { cls := .none, data := .fields #[] } ∧ K.lookup p.2 = none ∧ PySem.W.CodeHd h p.1 p.2
theorem tabsB_ok {h : Heap} {K : PySem.W.Frag} (b : tabsB h.get? K = true) : TabsAt K h := fun p hp => by
  have := List.all_eq_true.mp b p hp
  simp only [Bool.and_eq_true] at this
  obtain ⟨⟨b1, b2⟩, b3⟩ := this
  exact ⟨emptyTab_ok b1, Option.isNone_iff_eq_none.mp b2, codeB_ok b3 rfl⟩
def obsL (fa : List He.Fa) (fn : List He.DefD) (g : Addr → Option Obj) (K : PySem.W.Frag) : AlL := (noLst K && (tabsB g K && fn.all fun d => codeT K d), He.obsD fa fn K)
def obsLG (n : Nat) (fa : List He.Fa) (fn : List He.DefD) (g : Addr → Option Obj) : AlL := obsL fa fn g (frT g n)
def hookL (n : Nat) (fa : List He.Fa) (fn : List He.DefD) : PySem.W.Hook where
  α := AlL
  obs := fun s => obsLG n fa fn s.heap.get?
  val := fun _ => (true, He.valD fn)
  says := fun _ h => ∃ K : PySem.W.Frag, K.In h ∧ He.SaysD fa fn K ∧ NoL K ∧ TabsAt K h ∧ ∀ d ∈ fn, codeT K d = true
  of := fun _ s e => by
    have e1 : (noLst (frT s.heap.get? n) && (tabsB s.heap.get? (frT s.heap.get? n) && fn.all fun d => codeT (frT s.heap.get? n) d)) = true := congrArg (fun z : AlL => z.1) e
    simp only [Bool.and_eq_true] at e1
    exact ⟨frT s.heap.get? n, fun a o q => frT_at q, congrArg (fun z : AlL => z.2) e, noLst_ok e1.1, tabsB_ok e1.2.1, List.all_eq_true.mp e1.2.2⟩
  keeps := fun _ h h' ⟨K, hK, c, nl, tb, ct⟩ k => ⟨K, PySem.W.Frag.In.keeps hK k, c, nl, fun p hp => ⟨k _ _ (tb p hp).1, (tb p hp).2.1, (tb p hp).2.2.keeps k⟩, ct⟩
theorem obsLG_eq {n : Nat} {fa : List He.Fa} {fn : List He.DefD} {g : Addr → Option Obj} {s : Shared} (h : ∀ a, g a = s.heap.get? a) : obsLG n fa fn g = (hookL n fa fn).obs s := by
  have e : g = s.heap.get? := funext h
  rw [e]; rfl
/-- what the law's def is to be given -/
theorem law_in {K : PySem.W.Frag} {mg : Str → Option Value} {m : Meaning} {n : Nat} (hm : ∀ ns : List Int, ns.length ≤ n → ∃ σ', m [some (.d (.list (ns.map PyData.int)))] = .ok (.d (.bool true)) σ') {H : Hp} {a : Addr} {ns : List Int} (hl : ns.length ≤ n) (ht : ∀ p ∈ tabs K, GxR.TabG H p.2) (hS : ∃ o, H a = some (.frz o (.lst (ns.map V.int)))) :
    spD K mg false 1 m [.ref a] H (fun v _ => v = .bl true) fun _ _ _ => False := by
  have hz : FzL H a (ns.map V.int) := hS
  have hf : ∀ ns : List Int, FzAll K H (ns.map PyData.int) (ns.map V.int) := fun ns => by
    induction ns with
    | nil => exact FzAll.nil
    | cons n ns ih => exact FzAll.cons (show V.int n = V.int n from rfl) ih
  obtain ⟨σ', e⟩ := hm ns hl
  refine ⟨rfl, [.d (.list (ns.map PyData.int))], ⟨rfl, fun i c q => ?_, fun i j t u p ⟨⟨ds, q⟩, _⟩ => ?_, ht⟩, fun c hc ds z => ?_, ?_⟩
  · cases i with
    | zero =>
      cases q
      exact ⟨_, rfl, a, _, rfl, hz, hf ns⟩
    | succ i => cases q
  · cases i with
    | zero => cases q
    | succ i => cases q
  · rw [List.mem_singleton.mp hc] at z
    cases z
  · show match m [some (.d (.list (ns.map PyData.int)))] with | .ok r σ' => _ | .exc c σ' => _ | .bad => _
    rw [e]
    exact fun v H' _ _ rn => rn
/-- the law's promise at its call -/
theorem law_sp {K : PySem.W.Frag} {mg : Str → Option Value} {m : Meaning} {n : Nat} (nl : NoL K) (hm : ∀ ns : List Int, ns.length ≤ n → ∃ σ', m [some (.d (.list (ns.map PyData.int)))] = .ok (.d (.bool true)) σ') {H : Hp} {a : Addr} {ns : List Int} (hl : ns.length ≤ n) (ht : ∀ p ∈ tabs K, H p.2 = some (.tbl #[])) (hS : SqL K H a (ns.map V.int)) :
    spL K mg 1 m [.ref a] H (fun v _ => v = .bl true) fun _ _ _ => False := by
  have tg : ∀ p ∈ tabs K, GxR.TabG H p.2 := fun p hp => ⟨#[], ht p hp, trivial⟩
  rcases hS with (h | h) | ⟨o, its, k, h1, h2, _⟩
  · exact .inr ⟨rfl, a, _, h, fun o => law_in hm hl (fun p hp => tab_upd (tg p hp) h fun _ z => by cases z) ⟨o, upd_same⟩⟩
  · exact .inl (law_in hm hl tg h)
  · exact absurd h2 (nl a o h1)
end FL

set_option Elab.async false
set_option linter.all false
set_option maxRecDepth 100000
set_option maxHeartbeats 2000000
/-! FL: more rules. -/
namespace FL
open PySem PySem.Spec PyProof.Rows L2
theorem hu_room {k : Nat} {A : Around} (hr : Room k A) : A.units + 65 < cLine := by have := hr.un; omega
@[simp] def gNeg : D → Option R
  | .int i => some (.d (.int (-i)))
  | _ => none
section
variable {X : Cx} {W : WX} {a : Expr} {Ea : S → Res R} {pos : Pos}
theorem de_neg (ha : DE X W a Ea) : DE X W (.UnaryOp .USub a pos) (eOp1 gNeg Ea) := de_un un_neg (fun a va H Q res hv e q => by
  unfold gNeg at e
  split at e
  · cases e
    exact ⟨_, view_int hv, q _ _ new_int⟩
  · cases e) ha
end
end FL

set_option Elab.async false
set_option linter.all false
set_option maxRecDepth 100000
set_option maxHeartbeats 2000000
/-! all, any of a generator expression whose test may call and make things. -/
namespace GXA
open PySem PySem.Spec PyProof.Rows L2 GxR
/-- the frame of a generator expression, in the context X of its def -/
abbrev gcx (X : Cx) (A2 : Around) (s4 : Shared) (H4 : Hp) (ce : Env) (fp : List Addr) (pn : List (Addr × Obj)) : Cx :=
  { X with A := A2, s_0 := s4, H_0 := H4, env := ce, outer := X.stack, stack := ce :: X.stack, ex := fp, fn := fun _ => false, pn := pn, xe := fun _ _ => False }
/-- its loop's code -/
abbrev gCode (elt tg iter : Expr) (ifs : List Expr) (scope : Scope) (gpos : Pos) (it : Value) (ce : Env) : Code := .compLoop (.GeneratorExp elt [⟨tg, iter, ifs, 0⟩] scope gpos) 0 it .none ce
/-- the state but for its generators and tokens -/
theorem inv_same {X : Cx} {pins : List (Addr × Obj)} {σ : L2.St} {H : Hp} {s s' : Shared} (I : Inv X pins σ H s) (h : s'.heap = s.heap) (o : s'.os = s.os) (b : AllBare s'.gens) : Inv X pins σ H s' := by
  obtain ⟨hp, g, d, t, os⟩ := s'
  have h : hp = s.heap := h
  have o : os = s.os := o
  subst h o
  exact ⟨I.ok, I.os, b, I.base, I.loc, I.cell, I.free, I.freeC, I.pin, I.hok, I.len⟩
section
variable {X : Cx} {pins : List (Addr × Obj)} {σ : L2.St} {H : Hp} {s : Shared}
/-- the frame's start: the state behind the making of the generator at a -/
theorem gstart {A2 : Around} {scope : Scope} {own : List (Str × Nat)} {fp : List Addr} {code : Value} {m : Str → Option Value} {s5 : Shared} {go : Obj} (I : Inv X pins σ H s) (ok : BlkOk X.N X.env.scope scope own) (hN : X.N.Nodup) (hnc : ∀ y ∈ scope.names, y.2 ≠ .cell)
    (hd : A2.handled = none) (hfr : A2.frames = some (genEnv scope (cloFrom X.env.cells scope.names []) s.heap.objs.size code builtinsNs X.env :: X.stack))
    (hfp : ∀ b ∈ fp, FpOk X pins H b ∧ b < s.heap.objs.size) (kp : ∀ b o, s.heap.get? b = some o → s5.heap.get? b = some o) (hos : s5.os = s.os) (hb : AllBare s5.gens) (hn : s5.heap.Ns s.heap.objs.size m)
    (hgo : s5.heap.get? (s.heap.objs.size + 1) = some go) (hgd : ∀ v, go.data ≠ .cell v) :
    Inv (gcx X A2 s H (genEnv scope (cloFrom X.env.cells scope.names []) s.heap.objs.size code builtinsNs X.env) fp [(s.heap.objs.size + 1, go)]) [] (wipe σ (own.map (·.2))) H s5 := by
  generalize hce : genEnv scope (cloFrom X.env.cells scope.names []) s.heap.objs.size code builtinsNs X.env = ce at hfr ⊢
  have cL : ce.locals = s.heap.objs.size := by rw [← hce]; rfl
  have cC : ce.cells = cloFrom X.env.cells scope.names [] := by rw [← hce]; rfl
  have cS : ce.scope = scope := by rw [← hce]; rfl
  have cF : ce.frame = some ce.locals := by rw [← hce]; rfl
  have free1 : ∀ y ∈ scope.names, y.2 = .free → ∃ c, X.env.cells.lookup y.1 = some c := fun y hy e => (ok.free y hy e).elim (fun k => I.ok.has _ (.inl k)) fun k => I.ok.has _ (.inr k)
  -- a captured name's cell is the def's
  have capt : ∀ {y c}, (y, c) ∈ ce.cells → X.env.cells.lookup y = some c ∧ c < s.heap.objs.size := fun {y c} hm => by
    rw [cC] at hm
    rcases cloFrom_mem hm with z | ⟨h1, h2⟩
    · cases z
    · obtain ⟨d, hd⟩ := free1 _ h1 rfl
      subst h2
      obtain ⟨v, z⟩ := I.cell _ _ hd
      rw [hd]
      exact ⟨rfl, z.lt⟩
  have captL : ∀ {y c}, ce.cells.lookup y = some c → X.env.cells.lookup y = some c ∧ c < s.heap.objs.size := fun {y c} e => capt (PySem.mem_of_lookup e)
  have captF : ∀ {y}, scope.names.lookup y = some .free → ∃ c, ce.cells.lookup y = some c ∧ X.env.cells.lookup y = some c := fun {y} e => by
    obtain ⟨c, hc⟩ := mem_lookup (cloFrom_has (cells := X.env.cells) (acc := []) (PySem.mem_of_lookup e))
    rw [← cC] at hc
    exact ⟨c, hc, (captL hc).1⟩
  have Hfresh : ∀ {b : Addr}, s.heap.objs.size ≤ b → H b = none := fun {b} hb => I.hok.fresh hb
  have gOk : (gcx X A2 s H ce fp [(s.heap.objs.size + 1, go)]).Ok := by
    constructor
    · exact I.ok.mod
    · show ce.scope.kind = .function
      rw [cS]; exact ok.kind
    · show ce.globals = mainGlobals
      rw [← hce]; exact I.ok.glob
    · show ce.builtins = builtinsNs
      rw [← hce]; rfl
    · show s.heap.objs.size ≤ ce.locals
      rw [cL]; exact Nat.le_refl _
    · intro y z c e1 e2
      exact I.ok.inj y z c (captL e1).1 (captL e2).1
    · intro y hy
      have hy : ce.scope.names.lookup y = some .cell ∨ ce.scope.names.lookup y = some .free := hy
      rw [cS] at hy
      rcases hy with hy | hy
      · exact absurd rfl (hnc _ (PySem.mem_of_lookup hy))
      · obtain ⟨c, e, _⟩ := captF hy
        exact ⟨c, e⟩
    · intro y c z
      cases z
    · intro _; exact hd
    · exact hfr
    · exact .inr ⟨rfl, cF⟩
    · intro b hb
      refine ⟨?_, fun y c e z => ?_⟩
      · show b ≠ ce.locals
        rw [cL]; exact Nat.ne_of_lt (hfp b hb).2
      · exact (hfp b hb).1.2.2.2.2.1 y c (captL e).1 z
    · exact I.bs
    · exact Nat.le_trans I.ok.bsz I.sz
    · intro b o e hb
      rcases (hfp b hb).1.2.2.2.1 with z | z
      · exact I.ok.noex b o e z
      · exact absurd (Nat.lt_of_lt_of_le (Heap.lt_size e) (Nat.le_trans I.ok.bsz z)) (Nat.lt_irrefl _)
    · intro b hb z
      rcases List.mem_cons.mp (I.stkSub b z) with q | q
      · exact (hfp b hb).1.2.1 q
      · exact (hfp b hb).1.2.2.1 q
    · exact I.stack
    · exact I.stkFree
  constructor
  · exact gOk
  · exact hos
  · exact hb
  · exact Un.kept kp
  · refine ⟨m, ?_, fun i y v e1 e2 e3 => ?_⟩
    · show s5.heap.Ns ce.locals m
      rw [cL]; exact hn
    · obtain ⟨e2, hne⟩ := wipe_some e2
      have hfree : scope.names.lookup y = some .free := by
        have e3 : Vis ce.scope y := e3
        rw [cS] at e3
        have no : ¬ (scope.names.lookup y = some .local ∨ scope.names.lookup y = some .cell) := fun hh => by
          have q : y ∈ own.map (·.1) ∨ y ∉ X.N := by
            rcases hh with hh | hh
            · exact ok.own (y, .local) (PySem.mem_of_lookup hh) (.inl rfl)
            · exact ok.own (y, .cell) (PySem.mem_of_lookup hh) (.inr rfl)
          rcases q with q | q
          · obtain ⟨p, hp, hpy⟩ := List.mem_map.mp q
            have e4 := ok.ix p hp
            have hpy : p.1 = y := hpy
            rw [hpy] at e4
            exact hne (List.mem_map.mpr ⟨p, hp, nodup_ix hN e4 e1⟩)
          · exact q (List.mem_of_getElem? e1)
        rcases e3 with z | z | z
        · exact absurd (.inl z) no
        · exact absurd (.inr z) no
        · exact z
      obtain ⟨m0, _, hl⟩ := I.loc
      have hk := ok.free (y, .free) (PySem.mem_of_lookup hfree) rfl
      obtain ⟨u, r, q⟩ := hl i y v e1 e2 (hk.elim (fun k => .inr (.inl k)) fun k => .inr (.inr k))
      obtain ⟨c, h1, h2⟩ := captF hfree
      refine ⟨u, r, .inr ⟨.inr (by show ce.scope.names.lookup y = some .free; rw [cS]; exact hfree), c, h1, ?_⟩⟩
      rcases q with ⟨k, _⟩ | ⟨_, c', e', z⟩
      · have k : X.env.scope.names.lookup y = some .local := k
        rcases hk with k' | k' <;> (rw [show X.env.scope.names.lookup y = _ from k'] at k; cases k)
      · rw [h2] at e'; cases e'
        exact z.keeps kp
  · intro y c e
    obtain ⟨v, z⟩ := I.cell y c (captL e).1
    exact ⟨v, z.keeps kp⟩
  · show H ce.locals = none
    rw [cL]; exact Hfresh (Nat.le_refl _)
  · intro y c e
    exact I.freeC y c (captL e).1
  · intro p hp
    have hp : p = (s.heap.objs.size + 1, go) := by simpa using hp
    subst hp
    refine ⟨hgo, Hfresh (Nat.le_succ _), ?_, fun z => ?_, hgd⟩
    · show s.heap.objs.size + 1 ≠ ce.locals
      rw [cL]; exact Nat.succ_ne_self _
    · obtain ⟨_, o, ho, _⟩ := I.stack.mem z
      exact absurd (Heap.lt_size ho) (Nat.not_lt.mpr (Nat.le_succ _))
  · exact I.hok.kept kp
  · show (wipe σ (own.map (·.2))).length = X.N.length
    rw [wipe_length]; exact I.len
end
end GXA

set_option Elab.async false
set_option linter.all false
set_option maxRecDepth 100000
set_option maxHeartbeats 4000000
/-! the loop of such a generator, its consumers. -/
namespace GXA
open PySem PySem.Spec PyProof.Rows L2 GxR
/-- what a turn is to reach; e: the truth that ends the walk -/
def TurnG (e : Bool) (J : It) (g : TG) (tt : TT) (te : TE) (σ : L2.St) (vs : List Nat) (Q : VK) (W : Nat → Nat → Hp → Prop) : Prop :=
  ∀ i m H, W i m H → (J.stop i H ∧ Q (.bl (!e)) H) ∨ (J.go i H ∧ ∃ Nx : Hp → Prop, (∀ H', Nx H' → ∃ m', m' < m ∧ W (i + 1) m' H') ∧ ∀ x H', J.yld i H x H' → g x (wipe σ vs) H' fun σ2 H2 => wipe σ2 vs = wipe σ vs ∧ tt σ2 H2 fun b H3 =>
    if b = true then te σ2 H3 fun y H4 => ∃ k, y = .bl k ∧ if k = e then Q (.bl e) H4 else Nx H4 else Nx H3)
/-- the generator's end: all is walked -/
def GEndP (Xg : Cx) (Q : VK) (e : Bool) : Nat → Shared → Shared → Prop := fun _ _ s1 => ∃ σ' H', Inv Xg [] σ' H' s1 ∧ Q (.bl (!e)) H'
/-- a truth value is handed out -/
def GYield (Xg : Cx) (Q : VK) (e : Bool) : Protocol := fun _ _ v s1 kap =>
  ∃ k σ' H', v = .bool k ∧ Inv Xg [] σ' H' s1 ∧ (k = e → Q (.bl e) H') ∧ (k ≠ e → ∀ s'' : Shared, s''.heap = s1.heap → s''.os = s1.os → AllBare s''.gens → kap (.send .none) s'')
section
variable {X : Cx} {A1 : Around} {s4 : Shared} {H4 : Hp} {ce : Env} {fp : List Addr} {a : Addr} {go : Obj} {elt tg iter : Expr} {ifs : List Expr} {scope : Scope} {gpos : Pos} {it : Addr} {J : It} {tn : Nat → Heap → Prop} {g : TG} {tt : TT} {te : TE} {σ : L2.St} {vs : List Nat} {Q : VK} {W : Nat → Nat → Hp → Prop} {e : Bool}
theorem seg_loop (hc : X.calm = true) (hco : ce.scope.isCoroutine = false) (hpa : ∀ b ∈ fp, a ≠ b) (T : Turn X.prog X.w X.K tg J fp it tn)
    (pg : PG (gcx X (A1.over (gCode elt tg iter ifs scope gpos (.ref it) ce) []) s4 H4 ce fp [(a, go)]) tg g) (pt : PTs (gcx X (A1.over (gCode elt tg iter ifs scope gpos (.ref it) ce) []) s4 H4 ce fp [(a, go)]) ifs tt)
    (pe : PE (gcx X (A1.over (gCode elt tg iter ifs scope gpos (.ref it) ce) []) s4 H4 ce fp [(a, go)]) elt te) (turn : TurnG e J g tt te σ vs Q W) :
    ∀ (m n i : Nat) (s₀ s : Shared) (H : Hp), m < n → Inv (gcx X (A1.over (gCode elt tg iter ifs scope gpos (.ref it) ce) []) s4 H4 ce fp [(a, go)]) [] (wipe σ vs) H s → tn i s.heap → (∀ b ∈ fp, H b = none) → W i m H →
      Seg (model X.prog X.w) A1 (fun n s₀ r s1 => r = .ok .next ∧ GEndP (gcx X (A1.over (gCode elt tg iter ifs scope gpos (.ref it) ce) []) s4 H4 ce fp [(a, go)]) Q e n s₀ s1) (GYield (gcx X (A1.over (gCode elt tg iter ifs scope gpos (.ref it) ce) []) s4 H4 ce fp [(a, go)]) Q e) n s₀
        (gCode elt tg iter ifs scope gpos (.ref it) ce) ((model X.prog X.w).den (gCode elt tg iter ifs scope gpos (.ref it) ce)) [] s := by
  generalize hXg : gcx X (A1.over (gCode elt tg iter ifs scope gpos (.ref it) ce) []) s4 H4 ce fp [(a, go)] = Xg at pg pt pe
  have pE : Xg.env = ce := by rw [← hXg]
  have pA : Xg.A = A1.over (gCode elt tg iter ifs scope gpos (.ref it) ce) [] := by rw [← hXg]
  have pP : Xg.prog = X.prog := by rw [← hXg]
  have pW : Xg.w = X.w := by rw [← hXg]
  have pK : Xg.K = X.K := by rw [← hXg]
  have pC : Xg.calm = true := by rw [← hXg]; exact hc
  have pX : Xg.xe = fun _ _ => False := by rw [← hXg]
  have pEx : Xg.ex = fp := by rw [← hXg]
  have pPn : Xg.pn = [(a, go)] := by rw [← hXg]
  have stat : ∀ {σ' : L2.St} {H' : Hp} {s' : Shared}, Inv Xg [] σ' H' s' → (∀ b ∈ fp, H' b = none) → ∀ b ∈ fp, FpOk Xg [] H' b := fun {σ' H' s'} I' hn b hb => by
    have hb' : b ∈ Xg.ex := by rw [pEx]; exact hb
    refine ⟨hn b hb, (I'.ok.exf b hb').1, I'.ok.exfs b hb', .inl hb', fun x c e => (I'.ok.exf b hb').2 x c e, fun p hp => ?_⟩
    rw [pPn] at hp
    have hp : p = (a, go) := by simpa using hp
    subst hp
    exact hpa b hb
  intro m
  induction m using Nat.strongRecOn with
  | ind m ih =>
  intro n i s₀ s H hmn I st fr w
  show Seg (model X.prog X.w) A1 _ _ _ s₀ _ ((compTurn (.GeneratorExp elt [⟨tg, iter, ifs, 0⟩] scope gpos) 0 (.ref it) .none ce).onRaise (leaving ce)) [] s
  rw [compTurn_gen, Sem.onRaise_eq_wrap]
  refine seg_bind_wrap (wpAny_standAt ?_)
  rcases turn i m H w with ⟨stop, qq⟩ | ⟨goes, Nx, hNx, step⟩
  · have td := T.done Xg pP pW pK pC i [] s (wipe σ vs) H (fun _ _ => False) I (stat I fr) st stop
    rw [pA] at td
    refine seg_bind_wrap (wpAny_mono td (fun r s6 ⟨hr, I6⟩ => ?_) fun _ _ h => h.elim)
    subst hr
    exact seg_end (.ok .next) ⟨rfl, _, H, I6, qq⟩
  · have ti := T.item Xg pP pW pK pC i [] s (wipe σ vs) H (fun _ _ => False) I (stat I fr) st goes
    rw [pA] at ti
    refine seg_bind_wrap (wpAny_mono ti (fun r s6 ⟨u, hr, h6⟩ => ?_) fun _ _ h => h.elim)
    subst hr
    refine seg_bind_wrap (wpAny_mono h6 (fun _ s7 ⟨x, H7, I7, r7, y7, st7, n7⟩ => ?_) fun _ _ h => h.elim)
    have I7' := I7.pinned (stat I7 n7) (T.obj _ _ st7)
    have ga := pg.run _ s7 _ H7 x u _ I7' r7 (step x H7 y7)
    rw [pE, pA, pP, pW, pX] at ga
    refine seg_bind_wrap (wpAny_mono ga (fun _ s8 ⟨σ8, H8, I8, hw8, q8⟩ => ?_) fun _ _ h => h.elim)
    have gt := pt.run _ s8 σ8 H8 _ I8 q8
    rw [pE, pA, pP, pW, pX] at gt
    refine seg_bind_wrap (wpAny_mono gt (fun b s9 ⟨H9, I9, q9⟩ => ?_) fun _ _ h => h.elim)
    -- the turn's end
    have fin : ∀ {s' : Shared} {H' : Hp}, Inv Xg ([] ++ pinsAt fp s7.heap) σ8 H' s' → Nx H' → ∃ m', m' < m ∧ Inv Xg [] (wipe σ vs) H' s' ∧ tn (i + 1) s'.heap ∧ (∀ b ∈ fp, H' b = none) ∧ W (i + 1) m' H' := fun {s' H'} I' nx => by
      obtain ⟨m', hm, w'⟩ := hNx H' nx
      have pin' : ∀ b ∈ fp, ∀ o, s7.heap.get? b = some o → s'.heap.get? b = some o ∧ H' b = none := fun b hb o e =>
        let z := I'.pin (b, o) (List.mem_append_right _ (List.mem_append_right _ (mem_pinsAt hb e)))
        ⟨z.1, z.2.1⟩
      have hl : (wipe σ vs).length = σ8.length := by rw [← hw8, wipe_length]
      refine ⟨m', hm, (I'.unpinned (pins := [])).weak hl (fun j v e => ?_), T.keep _ _ _ st7 fun b hb o e => (pin' b hb o e).1, fun b hb => ?_, w'⟩
      · rw [← hw8] at e
        exact (wipe_some e).1
      · obtain ⟨o, e, _⟩ := T.obj _ _ st7 b hb
        exact (pin' b hb o e).2
    cases b with
    | false =>
      simp only [Bool.false_eq_true, if_false] at q9 ⊢
      obtain ⟨m', hm, J1, J2, J3, J4⟩ := fin I9 q9
      have z := ih m' hm n (i + 1) s₀ s9 H9 (Nat.lt_trans hm hmn) J1 J2 J3 J4
      exact seg_again rfl z
    | true =>
      simp only [if_true] at q9 ⊢
      have hy : ∀ v, yieldOut ce v = yieldValue v := fun v => by simp only [yieldOut, hco, Bool.false_eq_true, if_false]
      simp only [hy]
      rw [Sem.bind_eq_wrap', Sem.bind_eq_wrap', Sem.wrap_wrap, Sem.wrap_wrap]
      have gp := pe.run _ s9 σ8 H9 _ I9 q9
      rw [pE, pA, pP, pW, pX] at gp
      refine seg_wrap (wpAny_mono gp (fun z s10 ⟨yv, H10, I10, r10, k, hyk, hk⟩ => ?_) fun _ _ h => h.elim)
      subst hyk
      have hz : z = .bool k := r10
      subst hz
      obtain ⟨n', rfl⟩ : ∃ n', n = n' + 1 := ⟨n - 1, by omega⟩
      refine seg_at (seg_yield rfl rfl rfl ⟨k, σ8, H10, rfl, I10.unpinned (pins := []), fun h => by rw [if_pos h] at hk; exact hk, fun h s'' e1 e2 e3 => ?_⟩)
      rw [if_neg h] at hk
      obtain ⟨m', hm, J1, J2, J3, J4⟩ := fin (inv_same I10 e1 e2 e3) hk
      have z := ih m' hm n' (i + 1) s'' s'' H10 (by omega) J1 J2 J3 J4
      exact seg_again rfl z
end
end GXA

set_option Elab.async false
set_option linter.all false
set_option maxRecDepth 100000
set_option maxHeartbeats 4000000
/-! all, any of such a generator. -/
namespace GXA
open PySem PySem.Spec PyProof.Rows L2 GxR GenW
/-- the generator sleeps, n the turns that it may still take -/
def Asleep (X Xg : Cx) (A1 : Around) (Q : VK) (e : Bool) (a : Addr) (g n : Nat) (s : Shared) : Prop :=
  s.heap.IsGen a g ∧ s.heap.NoLimit ∧ AllBare s.gens ∧ ∃ gs, s.gens[g]? = some gs ∧ ∀ s'' : Shared, s''.heap = s.heap → s''.os = s.os → AllBare s''.gens →
    gs.Goes (model X.prog X.w) A1 (fun n s₀ r s1 => r = .ok .next ∧ GEndP Xg Q e n s₀ s1) (GYield Xg Q e) n (.send .none) s''
/-- what is had behind it -/
def GDone (Xg : Cx) (Q : VK) (r : Result) (s : Shared) : Prop := ∃ k σ' H', r = .ok (.ret (.bool k)) ∧ Inv Xg [] σ' H' s ∧ Q (.bl k) H'
section
variable {X Xg : Cx} {A : Around} {Q : VK} {a : Addr} {go : Obj} {g : Nat}
theorem done_inv {e : Bool} {s1 : Shared} {h' : Heap} {σ' : L2.St} {H' : Hp} (I : Inv Xg [] σ' H' s1) (hk : ∀ b o, s1.heap.get? b = some o → h'.get? b = some o) : Inv Xg [] σ' H' { s1.setGen g .finished with heap := h' } :=
  inv_same (I.kept (t' := s1.toks) hk) rfl rfl (allBare_setGen I.bare rfl)
theorem all_loop (hh : A.handled = none) (hd : A.in1.depth < recursionLimit) (hgo : ∀ h : Heap, h.get? a = some go → h.IsGen a g) (hpn : (a, go) ∈ Xg.pn) :
    ∀ (n : Nat) (s : Shared), Asleep X Xg A.in1.in1 Q false a g n s → codeAny (model X.prog X.w) A (.builtin "all.loop" ⟨[.ref a], []⟩) (GDone Xg Q) s := by
  intro n
  induction n with
  | zero =>
    intro s ⟨h1, h2, h3, gs, hgs, hG⟩
    refine codeAny_builtin F.entry_all_loop ?_
    rw [Around.under_plainId F.plain_all_loop _]
    show wpAny _ A.in1 (pyNext (.ref a) >>= _) _ _ s
    refine wpAny_bind (wpAny_pyNext_genexpQ (A := A.in1) (P := GEndP Xg Q false) hh h2 hd h1 hgs (hG (s.setGen g .running) rfl rfl (allBare_setGen h3 rfl)) (fun v s1 gs' hb hv => ?_) fun s1 ⟨σ', H', I, q⟩ h' hk => ?_)
    · obtain ⟨k, σ', H', rfl, I, q1, q2⟩ := hv
      refine wpAny_bind (wpAny_holding (wpAny_truthy_bool ?_))
      refine wpAny_bind (wpAny_letGo ?_)
      cases k with
      | true => exact False.elim (q2 (by decide) s1 rfl rfl I.bare)
      | false =>
        simp only [Bool.false_eq_true, if_false]
        exact wpAny_bind (wpAny_rule (wpAny_pure ⟨false, σ', H', rfl, inv_same I rfl rfl (allBare_setGen I.bare hb), q1 rfl⟩))
    · exact wpAny_bind (wpAny_rule (wpAny_pure ⟨true, σ', H', rfl, done_inv (e := false) I hk, q⟩))
  | succ n ih =>
    intro s ⟨h1, h2, h3, gs, hgs, hG⟩
    have hgl : g + 1 ≤ s.gens.size := (Array.getElem?_eq_some_iff.mp hgs).1
    refine codeAny_builtin F.entry_all_loop ?_
    rw [Around.under_plainId F.plain_all_loop _]
    show wpAny _ A.in1 (pyNext (.ref a) >>= _) _ _ s
    refine wpAny_bind (wpAny_gsz (n := g + 1) hgl (wpAny_pyNext_genexpQ (A := A.in1) (P := GEndP Xg Q false) hh h2 hd h1 hgs (hG (s.setGen g .running) rfl rfl (allBare_setGen h3 rfl)) (fun v s1 gs' hb hv => ?_) fun s1 ⟨σ', H', I, q⟩ h' hk => ?_))
    · intro hsz
      obtain ⟨k, σ', H', rfl, I, q1, q2⟩ := hv
      refine wpAny_bind (wpAny_holding (wpAny_truthy_bool ?_))
      refine wpAny_bind (wpAny_letGo ?_)
      cases k with
      | true =>
        simp only [if_true]
        have hsz1 : g < s1.gens.size := by rw [setGen_size] at hsz; exact hsz
        refine wpAny_pure ⟨plainId_quiet F.plain_all_loop _, ih (s1.setGen g gs') ⟨hgo _ (I.pin (a, go) (List.mem_append_left _ hpn)).1, I.nolimit, allBare_setGen I.bare hb, gs', setGen_at hsz1, fun s'' e1 e2 e3 => ?_⟩⟩
        exact q2 (by decide) s'' e1 e2 e3
      | false =>
        simp only [Bool.false_eq_true, if_false]
        exact wpAny_bind (wpAny_rule (wpAny_pure ⟨false, σ', H', rfl, inv_same I rfl rfl (allBare_setGen I.bare hb), q1 rfl⟩))
    · intro _
      exact wpAny_bind (wpAny_rule (wpAny_pure ⟨true, σ', H', rfl, done_inv (e := false) I hk, q⟩))
theorem any_loop (hh : A.handled = none) (hd : A.in1.depth < recursionLimit) (hgo : ∀ h : Heap, h.get? a = some go → h.IsGen a g) (hpn : (a, go) ∈ Xg.pn) :
    ∀ (n : Nat) (s : Shared), Asleep X Xg A.in1.in1 Q true a g n s → codeAny (model X.prog X.w) A (.builtin "any.loop" ⟨[.ref a], []⟩) (GDone Xg Q) s := by
  intro n
  induction n with
  | zero =>
    intro s ⟨h1, h2, h3, gs, hgs, hG⟩
    refine codeAny_builtin F.entry_any_loop ?_
    rw [Around.under_plainId F.plain_any_loop _]
    show wpAny _ A.in1 (pyNext (.ref a) >>= _) _ _ s
    refine wpAny_bind (wpAny_pyNext_genexpQ (A := A.in1) (P := GEndP Xg Q true) hh h2 hd h1 hgs (hG (s.setGen g .running) rfl rfl (allBare_setGen h3 rfl)) (fun v s1 gs' hb hv => ?_) fun s1 ⟨σ', H', I, q⟩ h' hk => ?_)
    · obtain ⟨k, σ', H', rfl, I, q1, q2⟩ := hv
      refine wpAny_bind (wpAny_holding (wpAny_truthy_bool ?_))
      refine wpAny_bind (wpAny_letGo ?_)
      cases k with
      | false => exact False.elim (q2 (by decide) s1 rfl rfl I.bare)
      | true =>
        simp only [if_true]
        exact wpAny_bind (wpAny_rule (wpAny_pure ⟨true, σ', H', rfl, inv_same I rfl rfl (allBare_setGen I.bare hb), q1 rfl⟩))
    · exact wpAny_bind (wpAny_rule (wpAny_pure ⟨false, σ', H', rfl, done_inv (e := true) I hk, q⟩))
  | succ n ih =>
    intro s ⟨h1, h2, h3, gs, hgs, hG⟩
    have hgl : g + 1 ≤ s.gens.size := (Array.getElem?_eq_some_iff.mp hgs).1
    refine codeAny_builtin F.entry_any_loop ?_
    rw [Around.under_plainId F.plain_any_loop _]
    show wpAny _ A.in1 (pyNext (.ref a) >>= _) _ _ s
    refine wpAny_bind (wpAny_gsz (n := g + 1) hgl (wpAny_pyNext_genexpQ (A := A.in1) (P := GEndP Xg Q true) hh h2 hd h1 hgs (hG (s.setGen g .running) rfl rfl (allBare_setGen h3 rfl)) (fun v s1 gs' hb hv => ?_) fun s1 ⟨σ', H', I, q⟩ h' hk => ?_))
    · intro hsz
      obtain ⟨k, σ', H', rfl, I, q1, q2⟩ := hv
      refine wpAny_bind (wpAny_holding (wpAny_truthy_bool ?_))
      refine wpAny_bind (wpAny_letGo ?_)
      cases k with
      | false =>
        simp only [Bool.false_eq_true, if_false]
        have hsz1 : g < s1.gens.size := by rw [setGen_size] at hsz; exact hsz
        refine wpAny_pure ⟨plainId_quiet F.plain_any_loop _, ih (s1.setGen g gs') ⟨hgo _ (I.pin (a, go) (List.mem_append_left _ hpn)).1, I.nolimit, allBare_setGen I.bare hb, gs', setGen_at hsz1, fun s'' e1 e2 e3 => ?_⟩⟩
        exact q2 (by decide) s'' e1 e2 e3
      | true =>
        simp only [if_true]
        exact wpAny_bind (wpAny_rule (wpAny_pure ⟨true, σ', H', rfl, inv_same I rfl rfl (allBare_setGen I.bare hb), q1 rfl⟩))
    · intro _
      exact wpAny_bind (wpAny_rule (wpAny_pure ⟨false, σ', H', rfl, done_inv (e := true) I hk, q⟩))
theorem over_gen {elt tg iter : Expr} {ifs : List Expr} {scope : Scope} {gpos : Pos} {it : Value} {ce : Env} : A.over (gCode elt tg iter ifs scope gpos it ce) [] = A.deeper ce := by
  first
    | rfl
    | (obtain ⟨hd, d, fr, gs, u⟩ := A; simp [Around.over, Around.deeper, marksOver, frameCount, unitsOf, envsOf, guardsOf, pushEnvs, pushGuards, Code.envs, Code.env?, Code.isFrame, Code.guards, Code.isGuard, Code.weight, Code.frames, Code.isCreation, Code.isCaller, Code.cUnits])
end
end GXA

set_option Elab.async false
set_option linter.all false
set_option maxRecDepth 100000
set_option maxHeartbeats 4000000
/-! all(..), any(..) of a generator expression: the rules. -/
namespace GXA
open PySem PySem.Spec PyProof.Rows L2 GxR GenW
/-- the reading: e ends the walk; P: the table of the def's code -/
def tGen (P : Addr) (e : Bool) (wi : TI) (g : TG) (tt : TT) (te : TE) (vs : List Nat) : TE := fun σ H Q => wi σ H fun J H1 => TabG H1 P ∧ ∀ ps more : Array Value, H1 P = some (.tbl ps) → TriplesOk (ps ++ more).toList → ∃ W : Nat → Nat → Hp → Prop, (∃ m, W 0 m (upd H1 P (.tbl (ps ++ more)))) ∧ TurnG e J g tt te σ vs Q W
/-- a generator that sleeps at its start -/
def MadeG (X : Cx) (pins : List (Addr × Obj)) (σ : L2.St) (Q : VK) (e : Bool) (u : Value) (s5 : Shared) : Prop :=
  ∃ (a : Addr) (go : Obj) (g n : Nat) (Xg : Cx), u = .ref a ∧ (∀ h : Heap, h.get? a = some go → h.IsGen a g) ∧ (a, go) ∈ Xg.pn ∧ Asleep X Xg X.A.in1.in1 Q e a g n s5 ∧ ∀ σ' H' s', Inv Xg [] σ' H' s' → Inv X pins σ H' s'
section
variable {X : Cx} {pins : List (Addr × Obj)} {σ : L2.St} {H : Hp} {s : Shared} {elt tg iter : Expr} {ifs : List Expr} {scope : Scope} {own : List (Str × Nat)} {gpos : Pos} {wi : TI} {g : TG} {tt : TT} {te : TE} {Q : VK} {e : Bool} {k : Nat} {c P : Addr}
theorem gen_made {Q' : Value → Shared → Prop} (hr : Room (k + 3) X.A) (hc : X.calm = true) (hN : X.N.Nodup) (TB : TabB X.base X.mg c P) (hcode : X.env.code = .ref c) (hi : PI X tg iter wi) (ok : BlkOk X.N X.env.scope scope own) (hnc : ∀ y ∈ scope.names, y.2 ≠ .cell)
    (hdot : scope.names.lookup (".0" : Str) = some NameKind.local) (hco : scope.isCoroutine = false)
    (hg : ∀ (A2 : Around) (s4 : Shared) (H4 : Hp) (code : Value) (L : Addr) (cl : List (Str × Addr)) (fp : List Addr) (pn : List (Addr × Obj)), Room k A2 → PG (gcx X A2 s4 H4 (genEnv scope cl L code builtinsNs X.env) fp pn) tg g)
    (ht : ∀ (A2 : Around) (s4 : Shared) (H4 : Hp) (code : Value) (L : Addr) (cl : List (Str × Addr)) (fp : List Addr) (pn : List (Addr × Obj)), Room k A2 → PTs (gcx X A2 s4 H4 (genEnv scope cl L code builtinsNs X.env) fp pn) ifs tt)
    (he : ∀ (A2 : Around) (s4 : Shared) (H4 : Hp) (code : Value) (L : Addr) (cl : List (Str × Addr)) (fp : List Addr) (pn : List (Addr × Obj)), Room k A2 → PE (gcx X A2 s4 H4 (genEnv scope cl L code builtinsNs X.env) fp pn) elt te)
    (hs : ∀ v, genFold iter X.env v = pure v) (I : Inv X pins σ H s) (h : tGen P e wi g tt te (own.map (·.2)) σ H Q) (hQ : ∀ u s5, MadeG X pins σ Q e u s5 → Q' u s5) :
    wpAny (model X.prog X.w) X.A (eval (.GeneratorExp elt [⟨tg, iter, ifs, 0⟩] scope gpos) X.env) Q' X.xe s := by
  have hfree : ∀ y ∈ scope.names, y.2 = .free → ∃ d, X.env.cells.lookup y.1 = some d := fun y hy e => (ok.free y hy e).elim (fun k => I.ok.has _ (.inl k)) fun k => I.ok.has _ (.inr k)
  refine wpAny_GeneratorExp_make hco (closure_ok hfree) hnc hdot ok.kind (by have := hr.dp; omega) (thn (hi.run pins s σ H _ I h) fun xv s1 hx => thn hx fun itv s2 h2 => ?_) hs
  obtain ⟨it, fp, tn, J, H2, eit, I2, T, st2, f2, ⟨ps, hP, htr⟩, q2⟩ := h2
  subst eit
  refine ⟨I2.nolimit, ?_⟩
  have hPs : s2.heap.get? P = some { cls := .none, data := .fields ps } := I2.hok P _ hP
  have cd : PySem.W.CodeHd s2.heap c P := TB.code.keeps fun b u q => I2.bk b u q
  have nfP : ∀ b ∈ fp, b ≠ P := fun b hb z => by
    have := (f2 b hb).1
    rw [z, hP] at this
    cases this
  -- behind the code object's making
  have after : ∀ (code : Value) (h3 : Heap) (tk : Nat) (ps' : Array Value), Heap.ExtBut P s2.heap h3 → h3.get? P = some { cls := .none, data := .fields ps' } → (∃ more, ps' = ps ++ more) → TriplesOk ps'.toList →
      wpAny (model X.prog X.w) X.A (builtinsFor X.env.globals X.env.builtins) (fun bi s₄ => ∀ h', h'.Ns s₄.heap.objs.size (fun y => if y = ".0" then some (.ref it) else none) → Heap.SameBut s₄.heap.objs.size (s₄.heap.push { cls := .type "frame", data := .dict #[] }) h' →
          Q' (.ref h'.objs.size) { s₄ with
            gens := s₄.gens.push (.fresh (.compStart (.GeneratorExp elt [⟨tg, iter, ifs, 0⟩] scope gpos) 0 (.ref it) .none (genEnv scope (cloFrom X.env.cells scope.names []) s₄.heap.objs.size code bi X.env))),
            toks := s₄.toks + 1 + 1 + 1,
            heap := h'.push { cls := .type "generator", data := .fields #[.int s₄.gens.size 0, .str "<genexpr>" (s₄.toks + 1), .str (X.env.qual ++ "<genexpr>") (s₄.toks + 1 + 1)] } }) X.xe { s2 with heap := h3, toks := tk } := by
    intro code h3 tk ps' hx hP3 ⟨more, em⟩ ht3
    subst em
    obtain ⟨bm, ob, b1, b2, b3, b4, b5, b6, b7, b8⟩ := TB.bm
    have keep3 : ∀ b u, b ≠ P → s2.heap.get? b = some u → h3.get? b = some u := fun b u hb q => hx b u hb q
    refine wpAny_builtinsFor (m := X.mg) (by rw [I2.ok.glob]; exact ((I2.mod.glob.keeps I2.bk)).extBut hx TB.gP) b1 b2 (keep3 _ _ b4 (I2.bk _ _ b5)) b6 b7 b8 ?_
    intro h' hn' hs'
    have I3 : Inv X pins σ (upd H2 P (.tbl (ps ++ more))) { s2 with heap := h3, toks := tk } := inv_tab (g' := s2.gens) (d' := s2.drawn) I2 hP (fun b o hb q => hx b o hb q) hP3 I2.bare
    generalize hs4 : ({ s2 with heap := h3, toks := tk } : Shared) = s4 at I3 hn' hs' ⊢
    have e4 : s4.heap = h3 := by rw [← hs4]
    obtain ⟨W, ⟨m0, w0⟩, turn⟩ := q2 ps more hP ht3
    have st4 : tn 0 s4.heap := T.keep _ _ _ st2 fun b hb o q => by rw [e4]; exact keep3 b o (nfP b hb) q
    have sz : ∀ b ∈ fp, b < s4.heap.objs.size := fun b hb => by
      obtain ⟨o, q, _⟩ := T.obj _ _ st4 b hb
      exact Heap.lt_size q
    have f4 : ∀ b ∈ fp, FpOk X pins (upd H2 P (.tbl (ps ++ more))) b ∧ b < s4.heap.objs.size := fun b hb => ⟨⟨by rw [upd_ne (nfP b hb)]; exact (f2 b hb).1, (f2 b hb).2⟩, sz b hb⟩
    have hsz : h'.objs.size = s4.heap.objs.size + 1 := by rw [hs'.1, Heap.size_push]
    rw [hsz]
    generalize hgo : ({ cls := .type "generator", data := .fields #[.int s4.gens.size 0, .str "<genexpr>" (s4.toks + 1), .str (X.env.qual ++ "<genexpr>") (s4.toks + 1 + 1)] } : Obj) = go
    have kp : ∀ b o, s4.heap.get? b = some o → (h'.push go).get? b = some o := fun b o q => Heap.get?_push_of_some _ (hs'.extBut b o (Nat.ne_of_lt (Heap.lt_size q)) (Heap.get?_push_of_some _ q))
    have hgen : ∀ h : Heap, h.get? (s4.heap.objs.size + 1) = some go → h.IsGen (s4.heap.objs.size + 1) s4.gens.size := fun h q => by
      subst hgo
      exact ⟨_, _, _, q, rfl, rfl, rfl⟩
    have hgot : (h'.push go).get? (s4.heap.objs.size + 1) = some go := by
      rw [← hsz]
      subst hgo
      exact Heap.get?_push_size _ rfl
    have hgd : ∀ v, go.data ≠ .cell v := fun v q => by subst hgo; cases q
    have hdh : X.A.handled = none := hr.hd
    generalize hce : genEnv scope (cloFrom X.env.cells scope.names []) s4.heap.objs.size code builtinsNs X.env = ce
    have hroom : Room k (X.A.in1.in1.deeper ce) := ((hr.in1).in1).deeper ce
    have fr2 : (X.A.in1.in1.deeper ce).frames = some (ce :: X.stack) := Around.frames_deeper I3.ok.frames
    refine hQ _ _ ⟨s4.heap.objs.size + 1, go, s4.gens.size, m0 + 1, gcx X (X.A.in1.in1.over (gCode elt tg iter ifs scope gpos (.ref it) ce) []) s4 (upd H2 P (.tbl (ps ++ more))) ce fp [(s4.heap.objs.size + 1, go)], rfl, hgen, List.mem_singleton.mpr rfl, ⟨hgen _ hgot, ?_, ?_, _, Array.getElem?_push_size .., fun s'' q1 q2 q3 => ⟨rfl, ?_⟩⟩, fun σ' H' s' I' => ?_⟩
    · exact I3.nolimit.keeps kp
    · exact AllBare.push I3.bare rfl
    · have pg := hg (X.A.in1.in1.deeper ce) s4 (upd H2 P (.tbl (ps ++ more))) code s4.heap.objs.size (cloFrom X.env.cells scope.names []) fp [(s4.heap.objs.size + 1, go)] hroom
      have pt := ht (X.A.in1.in1.deeper ce) s4 (upd H2 P (.tbl (ps ++ more))) code s4.heap.objs.size (cloFrom X.env.cells scope.names []) fp [(s4.heap.objs.size + 1, go)] hroom
      have pe := he (X.A.in1.in1.deeper ce) s4 (upd H2 P (.tbl (ps ++ more))) code s4.heap.objs.size (cloFrom X.env.cells scope.names []) fp [(s4.heap.objs.size + 1, go)] hroom
      have gs := gstart (A2 := X.A.in1.in1.deeper ce) (code := code) (s5 := s'') (m := fun y => if y = ".0" then some (.ref it) else none) (go := go) I3 ok hN hnc hdh (by rw [hce]; exact fr2) f4 (fun b o q => by rw [q1]; exact kp b o q) q2 q3 (by rw [q1]; exact hn'.push _) (by rw [q1]; exact hgot) hgd
      rw [hce] at pg pt pe gs
      rw [← over_gen (elt := elt) (tg := tg) (iter := iter) (ifs := ifs) (scope := scope) (gpos := gpos) (it := .ref it)] at pg pt pe gs
      have cco : ce.scope.isCoroutine = false := by rw [← hce]; exact hco
      have loop := seg_loop (A1 := X.A.in1.in1) hc cco (fun b hb z => absurd (sz b hb) (by rw [← z]; exact Nat.not_lt.mpr (Nat.le_succ _))) T pg pt pe turn m0 (m0 + 1) 0 s'' s'' (upd H2 P (.tbl (ps ++ more))) (Nat.lt_succ_self _) gs (T.keep _ _ _ st4 fun b _ o q => by rw [q1]; exact kp b o q) (fun b hb => (f4 b hb).1.1) w0
      show Seg _ _ _ _ _ s'' _ ((compStart (.GeneratorExp elt [⟨tg, iter, ifs, 0⟩] scope gpos) 0 (.ref it) .none ce).onRaise (leaving ce)) [] s''
      unfold compStart
      rw [Sem.onRaise_eq_wrap]
      show Seg _ _ _ _ _ s'' _ ((ask >>= _).wrap _ _ _ _) [] s''
      have st5 : tn 0 s''.heap := T.keep _ _ _ st4 fun b _ o q => by rw [q1]; exact kp b o q
      refine seg_bind_wrap (wpAny_askSetting ?_)
      split
      · exact seg_again rfl loop
      · first
          | exact seg_bind_wrap (wpAny_rule (seg_bind_wrap (wpAny_standAt (seg_bind_wrap (T.self _ 0 s'' _ _ st5 (seg_again rfl loop))))))
          | (refine seg_bind_wrap (wpAny_rule ?_)
             show Seg _ _ _ _ _ s'' _ ((standAt iter.pos >>= _).wrap _ _ _ _) [] s''
             exact seg_bind_wrap (wpAny_standAt (seg_bind_wrap (T.self _ 0 s'' _ _ st5 (seg_again rfl loop)))))
    · exact I3.call' (ch := fp) I'.os I'.base I'.hok I'.bare fun b hb => ⟨(f4 b hb).1.2.2.2.1, (f4 b hb).1.2.1, (f4 b hb).1.2.2.2.2.1, (f4 b hb).1.2.2.2.2.2⟩
  cases hf : codeAmong gpos ps.toList with
  | none =>
    refine wpAny_genexprCodeX hcode (cd.code hPs htr) (cd.tab hPs) hf fun c' h' tk hx hge hlt hco' _ htab' _ => ?_
    obtain ⟨o1, vs, f1, tf, fl, tg', inF, tx, tt', op, _, _, _, _, _, _, _, _, _, htr', _⟩ := hco'
    exact after _ h' tk _ hx htab'.2 ⟨_, rfl⟩ htr'
  | some cv =>
    refine wpAny_genexprCode_hit hcode (cd.code hPs htr) hf ?_
    exact after cv s2.heap s2.toks ps (Heap.ExtBut.refl _ _) hPs ⟨#[], by simp⟩ htr
end
section
variable {X : Cx} {elt tg iter : Expr} {ifs : List Expr} {scope : Scope} {own : List (Str × Nat)} {gpos p pos : Pos} {wi : TI} {g : TG} {tt : TT} {te : TE} {k : Nat} {c P : Addr}
theorem gen_end {pins : List (Addr × Obj)} {σ : L2.St} {Q : VK} {Xg : Cx} (back : ∀ σ' H' s', Inv Xg [] σ' H' s' → Inv X pins σ H' s') {r : Result} {s' : Shared} (h : GDone Xg Q r s') : ∃ b, r = .ok (.ret (.bool b)) ∧ EP X pins σ Q (.bool b) s' := by
  obtain ⟨b, σ', H', rfl, I, q⟩ := h
  exact ⟨b, rfl, .bl b, H', back _ _ _ I, rfl, q⟩
theorem call_all_gen {pins : List (Addr × Obj)} {σ : L2.St} {Q : VK} {u : Value} {s5 : Shared} (hr : Room (k + 3) X.A) (h : MadeG X pins σ Q false u s5) : wpAny (model X.prog X.w) X.A (call (.builtin "all") [u]) (EP X pins σ Q) X.xe s5 := by
  obtain ⟨a, go, g, n, Xg, rfl, hgo, hpn, hA, back⟩ := h
  refine call_function_tree F.kind_all F.plain_all F.entry_all (F.args_all1 _) ?_
  unfold Builtin.«all»
  refine wpAny_bind (m := oneArg "all" _) (wpAny_pure ?_)
  refine wpAny_bind (wpAny_pyIter_gen hA.1 (wpAny_pure ⟨plainId_quiet F.plain_all_loop _, ?_⟩))
  refine codeAny_mono (all_loop hr.hd (by have := hr.dp; show X.A.depth < _; omega) hgo hpn n s5 hA) fun r s' hq => ?_
  obtain ⟨b, rfl, q⟩ := gen_end back hq
  exact q
theorem call_any_gen {pins : List (Addr × Obj)} {σ : L2.St} {Q : VK} {u : Value} {s5 : Shared} (hr : Room (k + 3) X.A) (h : MadeG X pins σ Q true u s5) : wpAny (model X.prog X.w) X.A (call (.builtin "any") [u]) (EP X pins σ Q) X.xe s5 := by
  obtain ⟨a, go, g, n, Xg, rfl, hgo, hpn, hA, back⟩ := h
  refine call_function_tree F.kind_any F.plain_any F.entry_any (F.args_any1 _) ?_
  unfold Builtin.«any»
  refine wpAny_bind (m := oneArg "any" _) (wpAny_pure ?_)
  refine wpAny_bind (wpAny_pyIter_gen hA.1 (wpAny_pure ⟨plainId_quiet F.plain_any_loop _, ?_⟩))
  refine codeAny_mono (any_loop hr.hd (by have := hr.dp; show X.A.depth < _; omega) hgo hpn n s5 hA) fun r s' hq => ?_
  obtain ⟨b, rfl, q⟩ := gen_end back hq
  exact q
theorem pe_allG (hr : Room (k + 3) X.A) (hc : X.calm = true) (hN : X.N.Nodup) (hgl : Gl X "all") (hm : X.mg "all" = none) (hbt : bootBuiltins "all" = some (.builtin "all")) (TB : TabB X.base X.mg c P) (hcode : X.env.code = .ref c) (hi : PI X tg iter wi) (ok : BlkOk X.N X.env.scope scope own) (hnc : ∀ y ∈ scope.names, y.2 ≠ .cell)
    (hdot : scope.names.lookup (".0" : Str) = some NameKind.local) (hco : scope.isCoroutine = false)
    (hg : ∀ (A2 : Around) (s4 : Shared) (H4 : Hp) (code : Value) (L : Addr) (cl : List (Str × Addr)) (fp : List Addr) (pn : List (Addr × Obj)), Room k A2 → PG (gcx X A2 s4 H4 (genEnv scope cl L code builtinsNs X.env) fp pn) tg g)
    (ht : ∀ (A2 : Around) (s4 : Shared) (H4 : Hp) (code : Value) (L : Addr) (cl : List (Str × Addr)) (fp : List Addr) (pn : List (Addr × Obj)), Room k A2 → PTs (gcx X A2 s4 H4 (genEnv scope cl L code builtinsNs X.env) fp pn) ifs tt)
    (he : ∀ (A2 : Around) (s4 : Shared) (H4 : Hp) (code : Value) (L : Addr) (cl : List (Str × Addr)) (fp : List Addr) (pn : List (Addr × Obj)), Room k A2 → PE (gcx X A2 s4 H4 (genEnv scope cl L code builtinsNs X.env) fp pn) elt te)
    (hs : ∀ v, genFold iter X.env v = pure v) (hst : starEach [.GeneratorExp elt [⟨tg, iter, ifs, 0⟩] scope gpos] X.env = (false, eval (.GeneratorExp elt [⟨tg, iter, ifs, 0⟩] scope gpos) X.env) :: starEach [] X.env) :
    PE X (.Call (.Name "all" p) [.GeneratorExp elt [⟨tg, iter, ifs, 0⟩] scope gpos] [] pos) (tGen P false wi g tt te (own.map (·.2))) := by
  refine ⟨fun pins s σ H Q I h => ?_⟩
  refine wpAny_Call_Name_kw (ld_blt I hgl hm hbt ?_)
  refine PyProof.Rows.callWith_builtin1 ?_ hst (by rfl)
  rw [hst]
  refine Calls.spliced_cons (gen_made hr hc hN TB hcode hi ok hnc hdot hco hg ht he hs I h fun u s5 hu => ?_)
  exact Calls.spliced_nil (call_all_gen hr hu)
theorem pe_anyG (hr : Room (k + 3) X.A) (hc : X.calm = true) (hN : X.N.Nodup) (hgl : Gl X "any") (hm : X.mg "any" = none) (hbt : bootBuiltins "any" = some (.builtin "any")) (TB : TabB X.base X.mg c P) (hcode : X.env.code = .ref c) (hi : PI X tg iter wi) (ok : BlkOk X.N X.env.scope scope own) (hnc : ∀ y ∈ scope.names, y.2 ≠ .cell)
    (hdot : scope.names.lookup (".0" : Str) = some NameKind.local) (hco : scope.isCoroutine = false)
    (hg : ∀ (A2 : Around) (s4 : Shared) (H4 : Hp) (code : Value) (L : Addr) (cl : List (Str × Addr)) (fp : List Addr) (pn : List (Addr × Obj)), Room k A2 → PG (gcx X A2 s4 H4 (genEnv scope cl L code builtinsNs X.env) fp pn) tg g)
    (ht : ∀ (A2 : Around) (s4 : Shared) (H4 : Hp) (code : Value) (L : Addr) (cl : List (Str × Addr)) (fp : List Addr) (pn : List (Addr × Obj)), Room k A2 → PTs (gcx X A2 s4 H4 (genEnv scope cl L code builtinsNs X.env) fp pn) ifs tt)
    (he : ∀ (A2 : Around) (s4 : Shared) (H4 : Hp) (code : Value) (L : Addr) (cl : List (Str × Addr)) (fp : List Addr) (pn : List (Addr × Obj)), Room k A2 → PE (gcx X A2 s4 H4 (genEnv scope cl L code builtinsNs X.env) fp pn) elt te)
    (hs : ∀ v, genFold iter X.env v = pure v) (hst : starEach [.GeneratorExp elt [⟨tg, iter, ifs, 0⟩] scope gpos] X.env = (false, eval (.GeneratorExp elt [⟨tg, iter, ifs, 0⟩] scope gpos) X.env) :: starEach [] X.env) :
    PE X (.Call (.Name "any" p) [.GeneratorExp elt [⟨tg, iter, ifs, 0⟩] scope gpos] [] pos) (tGen P true wi g tt te (own.map (·.2))) := by
  refine ⟨fun pins s σ H Q I h => ?_⟩
  refine wpAny_Call_Name_kw (ld_blt I hgl hm hbt ?_)
  refine PyProof.Rows.callWith_builtin1 ?_ hst (by rfl)
  rw [hst]
  refine Calls.spliced_cons (gen_made hr hc hN TB hcode hi ok hnc hdot hco hg ht he hs I h fun u s5 hu => ?_)
  exact Calls.spliced_nil (call_any_gen hr hu)
end
end GXA

set_option Elab.async false
set_option linter.all false
set_option maxRecDepth 100000
set_option maxHeartbeats 4000000
/-! FL: all, any of a generator expression. -/
namespace FL
open PySem PySem.Spec PyProof.Rows L2 GXA
/-- the walk; e ends it -/
@[simp] def gxL (vs : List Nat) (g : G) (T : S → Res Bool) (E : S → Res R) (e : Bool) : List D → S → Res Bool
  | [], σ => .ok (!e) σ
  | d :: ds, σ => match g d σ with
    | none => .bad
    | some σ1 => match T σ1 with
      | .ok b σ2 => if b = true then (match tTru isBool E σ2 with
          | .ok k σ3 => if k = e then .ok e (wipeS σ3 vs) else gxL vs g T E e ds (wipeS σ3 vs)
          | _ => .bad) else gxL vs g T E e ds (wipeS σ2 vs)
      | _ => .bad
@[simp] def eGx (e : Bool) (vs : List Nat) (It : S → Res (List D)) (g : G) (T : S → Res Bool) (E : S → Res R) (σ : S) : Res R := (It σ).bind fun ds σ1 => if noL σ1 vs = true then (match gxL vs g T E e ds (wipeS σ1 vs) with
  | .ok b σ2 => .ok (.d (.bool b)) (backS σ1 σ2 vs)
  | _ => .bad) else .bad
section
variable {K : PySem.W.Frag} {mg : Str → Option Value} {W : WX} {It : S → Res (List D)} {g : G} {T : S → Res Bool} {E : S → Res R} {vs : List Nat} {e : Bool} {c P : Addr}
theorem gx_post (hin : (c, P) ∈ tabs K) (hg : GOk vs g) {σv : L2.St} {H : Hp} {Q : VK} (h : rd K mg W (eGx e vs It g T E) σv H Q) : tGen P e (rdI K mg W It) (rdG K vs g) (rdT K mg W0 T) (rd K mg W0 E) vs σv H Q := by
  obtain ⟨σ, s, h⟩ := h
  refine ⟨σ, s, ?_⟩
  unfold eGx at h
  cases ea : It σ with
  | bad => rw [ea] at h; exact False.elim h
  | exc c σ1 => rw [ea] at h; exact h
  | ok ds σ1 =>
    rw [ea] at h
    simp only [Res.bind] at h
    intro J H1 st ir
    refine ⟨st.rel.tab (c, P) hin, fun ps more hP ht => ?_⟩
    split at h
    · rename_i nl
      obtain ⟨G0, Y, w, hG, hY⟩ := ir
      -- the table has grown
      have kg : ∀ (B : Addr → Prop), (∀ x, B x → x ≠ P) → Keep B H1 (upd H1 P (.tbl (ps ++ more))) := fun B hB => ⟨fun b o eb nb => by
        by_cases hb : b = P
        · subst hb
          rw [hP] at eb
          cases eb
          exact .inr ⟨ps, more, rfl, upd_same, fun _ => ht⟩
        · exact .inl (by rw [upd_ne hb]; exact eb), fun b eb => by
        by_cases hb : b = P
        · subst hb
          rw [upd_same] at eb; cases eb
        · rw [upd_ne hb] at eb; exact eb⟩
      have nPl : ∀ x, OwnM σ1 σv x → x ≠ P := fun x ⟨i, t, _, hx⟩ z => by
        obtain ⟨vs0, _, q, _⟩ := st.rel.at_lst hx
        rw [z, hP] at q; cases q
      have k1 := kg _ nPl
      have im1 := st.rel.imm k1
      have s1 : SRel K (upd H1 P (.tbl (ps ++ more))) σ1 σv := ⟨st.rel.len, fun i c0 e0 => by
          obtain ⟨v, e1, hc⟩ := st.rel.val i c0 e0
          refine ⟨v, e1, CRel.mono im1 (fun t ds' p ec ev vs' q => ?_) hc⟩
          rw [upd_ne (fun z => by rw [z, hP] at q; cases q)]
          exact q, st.rel.apart, fun p hp => k1.tab (fun z => nPl _ z (by
            obtain ⟨ps', e', _⟩ := st.rel.tab p hp
            obtain ⟨i, t, _, hx⟩ := z
            obtain ⟨vs0, _, q, _⟩ := st.rel.at_lst hx
            rw [q] at e'; cases e')) (st.rel.tab p hp)⟩
      have st1 : Step K H1 σ1 σv (upd H1 P (.tbl (ps ++ more))) σ1 := ⟨k1, s1, Sub.refl _⟩
      have sw : SRel K (upd H1 P (.tbl (ps ++ more))) (wipeS σ1 vs) (wipe σv vs) := s1.wipe
      -- behind the walk
      have fin : ∀ {b : Bool} {H' : Hp} {σ2 : S}, Step K (upd H1 P (.tbl (ps ++ more))) (wipeS σ1 vs) (wipe σv vs) H' σ2 → gxL vs g T E e ds (wipeS σ1 vs) = .ok b σ2 → Q (.bl b) H' := fun {b H' σ2} sb eb => by
        rw [eb] at h
        exact h _ H' ((st.trans st1).trans (Step.back s1 nl sb)) rfl
      cases eg : gxL vs g T E e ds (wipeS σ1 vs) with
      | bad => rw [eg] at h; exact False.elim h
      | exc c0 σ2 => rw [eg] at h; exact False.elim h
      | ok b σ2 =>
        refine ⟨fun i m H' => m = ds.length - i ∧ i ≤ ds.length ∧ ∃ σi, Step K (upd H1 P (.tbl (ps ++ more))) (wipeS σ1 vs) (wipe σv vs) H' σi ∧ gxL vs g T E e (ds.drop i) σi = .ok b σ2, ⟨ds.length, by simp, Nat.zero_le _, wipeS σ1 vs, Step.refl sw, eg⟩, fun i m H' ⟨em, hi, σi, st', el⟩ => ?_⟩
        have imi := im1.trans (st'.imm sw)
        by_cases hlt : i < ds.length
        · refine .inr ⟨w.goes i H' hlt (hG H' imi), fun H'' => ∃ σi, Step K (upd H1 P (.tbl (ps ++ more))) (wipeS σ1 vs) (wipe σv vs) H'' σi ∧ gxL vs g T E e (ds.drop (i + 1)) σi = .ok b σ2, fun H'' q => ⟨ds.length - (i + 1), by omega, rfl, hlt, q⟩, fun x H'' y => ?_⟩
          obtain ⟨d, ed, sm, hd⟩ := hY i H' x H'' imi hlt (w.yields i H' x H'' hlt (hG H' imi) y)
          have hdrop : ds.drop i = d :: ds.drop (i + 1) := by
            rw [List.drop_eq_getElem_cons hlt]
            congr 1
            rw [List.getElem?_eq_getElem hlt] at ed
            exact Option.some.inj ed
          rw [hdrop] at el
          unfold gxL at el
          have st2 := st'.trans (Step.same st'.rel sm)
          split at el
          · cases el
          · rename_i σg eg2
            refine ⟨σi, d, σg, st2.rel, hd, eg2, fun σv2 lg lng og => ?_⟩
            have wv : wipe σv2 vs = wipe σv vs := by
              rw [← wipe_wipe (σ := σv)]
              exact wipe_eq lng og
            refine ⟨wv, σg, lg.rel, ?_⟩
            obtain ⟨ng, og2⟩ := hg _ _ _ eg2
            have next : ∀ {H3 : Hp} {σ3 : S}, Step K H'' σg σv2 H3 σ3 → Step K (upd H1 P (.tbl (ps ++ more))) (wipeS σ1 vs) (wipe σv vs) H3 (wipeS σ3 vs) := fun {H3 σ3} s3 => by
              refine ⟨st2.keep.trans s3.keep fun a o e z => ?_, ?_, ?_⟩
              · rcases lg.ownM z with q | q
                · exact st2.sub.ownM q
                · have := st2.keep.gone a q
                  rw [e] at this; cases this
              · rw [← wv]; exact s3.rel.wipe
              · have len : (wipeS σ1 vs).length = σ3.length := by rw [wipeS_len, s1.len, s3.rel.len, lng, wipe_length]
                have : Sub (wipeS (wipeS σ1 vs) vs) (wipeS σ3 vs) := sub_wipe (fun j hj => by
                  have h1 := st2.sub j
                  have h2 := s3.sub j
                  rw [og2 j hj] at h2
                  exact h1.trans h2) len
                have ww : wipeS (wipeS σ1 vs) vs = wipeS σ1 vs := by
                  apply List.ext_getElem?
                  intro j
                  by_cases hj : j ∈ vs
                  · by_cases hn : j < σ1.length
                    · rw [wipeS_in hj (by rw [wipeS_len]; exact hn), wipeS_in hj hn]
                    · rw [List.getElem?_eq_none (by rw [wipeS_len, wipeS_len]; omega), List.getElem?_eq_none (by rw [wipeS_len]; omega)]
                  · rw [wipeS_out hj]
                rw [ww] at this
                exact this
            cases hT : T σg with
            | bad => rw [hT] at el; cases el
            | exc c0 σ3 => rw [hT] at el; cases el
            | ok b' σ3 =>
              rw [hT] at el
              intro b'' H3 s3 eb
              subst eb
              cases b' with
              | false =>
                simp only [Bool.false_eq_true, if_false] at el ⊢
                exact ⟨_, next s3, el⟩
              | true =>
                simp only [if_true] at el ⊢
                refine post_tru (K := K) (mg := mg) (W := W0) (Ea := E) (p := isBool) (r := fun y H4 Qb => ∃ k, y = .bl k ∧ Qb k H4) (Q := fun k H4 => if k = e then Q (.bl e) H4 else ∃ σi, Step K (upd H1 P (.tbl (ps ++ more))) (wipeS σ1 vs) (wipe σv vs) H4 σi ∧ gxL vs g T E e (ds.drop (i + 1)) σi = .ok b σ2) (fun d v H k Q hv e q => ⟨k, isBool_ok hv e, q⟩) ⟨σ3, s3.rel, ?_⟩
                cases hE : tTru isBool E σ3 with
                | bad => rw [hE] at el; cases el
                | exc c0 σ4 => rw [hE] at el; cases el
                | ok k σ4 =>
                  rw [hE] at el
                  simp only at el
                  intro k' H4 s4 ek
                  subst ek
                  by_cases hk : k = e
                  · rw [if_pos hk] at el ⊢
                    cases el
                    exact fin (next (s3.trans s4)) eg
                  · rw [if_neg hk] at el ⊢
                    exact ⟨_, next (s3.trans s4), el⟩
        · have ei : i = ds.length := by omega
          subst ei
          rw [List.drop_eq_nil_of_le (Nat.le_refl _)] at el
          unfold gxL at el
          cases el
          exact .inl ⟨w.stops H' (hG H' imi), fin st' eg⟩
    · exact False.elim h
end
section
variable {X : Cx} {W : WX} {elt tg iter : Expr} {ifs : List Expr} {scope : Scope} {own : List (Str × Nat)} {gpos p pos : Pos} {It : S → Res (List D)} {g : G} {T : S → Res Bool} {E : S → Res R} {k : Nat} {c P : Addr}
theorem de_all (hr : Room (k + 3) X.A) (hc : X.calm = true) (hN : X.N.Nodup) (hm : X.mg "all" = none) (hin : (c, P) ∈ tabs X.K) (TB : ∀ p ∈ tabs X.K, GxR.TabB X.base X.mg p.1 p.2) (hcode : X.env.code = .ref c) (hi : DI X W tg iter It) (ok : BlkOk X.N X.env.scope scope own) (hk : GOk (own.map (·.2)) g)
    (hg : ∀ (A2 : Around) (s4 : Shared) (H4 : Hp) (code : Value) (L : Addr) (cl : List (Str × Addr)) (fp : List Addr) (pn : List (Addr × Obj)), Room k A2 → DG (gcx X A2 s4 H4 (genEnv scope cl L code builtinsNs X.env) fp pn) tg (own.map (·.2)) g)
    (ht : ∀ (A2 : Around) (s4 : Shared) (H4 : Hp) (code : Value) (L : Addr) (cl : List (Str × Addr)) (fp : List Addr) (pn : List (Addr × Obj)), Room k A2 → DTs (gcx X A2 s4 H4 (genEnv scope cl L code builtinsNs X.env) fp pn) ifs T)
    (he : ∀ (A2 : Around) (s4 : Shared) (H4 : Hp) (code : Value) (L : Addr) (cl : List (Str × Addr)) (fp : List Addr) (pn : List (Addr × Obj)), Room k A2 → DE (gcx X A2 s4 H4 (genEnv scope cl L code builtinsNs X.env) fp pn) W0 elt E)
    (hnc : ∀ y ∈ scope.names, y.2 ≠ .cell := by decide +kernel) (hdot : scope.names.lookup (".0" : Str) = some NameKind.local := by rfl) (hco : scope.isCoroutine = false := by rfl) (hgl : Gl X "all" := by rfl)
    (hs : ∀ v, genFold iter X.env v = pure v := by intro _; rfl) (hst : starEach [.GeneratorExp elt [⟨tg, iter, ifs, 0⟩] scope gpos] X.env = (false, eval (.GeneratorExp elt [⟨tg, iter, ifs, 0⟩] scope gpos) X.env) :: starEach [] X.env := by rfl) :
    DE X W (.Call (.Name "all" p) [.GeneratorExp elt [⟨tg, iter, ifs, 0⟩] scope gpos] [] pos) (eGx false (own.map (·.2)) It g T E) :=
  pe_weak (pe_allG hr hc hN hgl hm (by kernel_rfl) (TB _ hin) hcode hi ok hnc hdot hco hg ht he hs hst) fun _ _ _ h => gx_post hin hk h
theorem de_any (hr : Room (k + 3) X.A) (hc : X.calm = true) (hN : X.N.Nodup) (hm : X.mg "any" = none) (hin : (c, P) ∈ tabs X.K) (TB : ∀ p ∈ tabs X.K, GxR.TabB X.base X.mg p.1 p.2) (hcode : X.env.code = .ref c) (hi : DI X W tg iter It) (ok : BlkOk X.N X.env.scope scope own) (hk : GOk (own.map (·.2)) g)
    (hg : ∀ (A2 : Around) (s4 : Shared) (H4 : Hp) (code : Value) (L : Addr) (cl : List (Str × Addr)) (fp : List Addr) (pn : List (Addr × Obj)), Room k A2 → DG (gcx X A2 s4 H4 (genEnv scope cl L code builtinsNs X.env) fp pn) tg (own.map (·.2)) g)
    (ht : ∀ (A2 : Around) (s4 : Shared) (H4 : Hp) (code : Value) (L : Addr) (cl : List (Str × Addr)) (fp : List Addr) (pn : List (Addr × Obj)), Room k A2 → DTs (gcx X A2 s4 H4 (genEnv scope cl L code builtinsNs X.env) fp pn) ifs T)
    (he : ∀ (A2 : Around) (s4 : Shared) (H4 : Hp) (code : Value) (L : Addr) (cl : List (Str × Addr)) (fp : List Addr) (pn : List (Addr × Obj)), Room k A2 → DE (gcx X A2 s4 H4 (genEnv scope cl L code builtinsNs X.env) fp pn) W0 elt E)
    (hnc : ∀ y ∈ scope.names, y.2 ≠ .cell := by decide +kernel) (hdot : scope.names.lookup (".0" : Str) = some NameKind.local := by rfl) (hco : scope.isCoroutine = false := by rfl) (hgl : Gl X "any" := by rfl)
    (hs : ∀ v, genFold iter X.env v = pure v := by intro _; rfl) (hst : starEach [.GeneratorExp elt [⟨tg, iter, ifs, 0⟩] scope gpos] X.env = (false, eval (.GeneratorExp elt [⟨tg, iter, ifs, 0⟩] scope gpos) X.env) :: starEach [] X.env := by rfl) :
    DE X W (.Call (.Name "any" p) [.GeneratorExp elt [⟨tg, iter, ifs, 0⟩] scope gpos] [] pos) (eGx true (own.map (·.2)) It g T E) :=
  pe_weak (pe_anyG hr hc hN hgl hm (by kernel_rfl) (TB _ hin) hcode hi ok hnc hdot hco hg ht he hs hst) fun _ _ _ h => gx_post hin hk h
end
end FL

set_option Elab.async false
set_option linter.all false
set_option maxRecDepth 100000
/-! what the defs mean that many laws have -/
namespace FL.Com
open PySem FL
noncomputable section
/-! is_number(value, least, most); slots 0:value 1:least 2:most -/
def b_is_number : S → Out := sRet (eAnd (eOp1 (gIsi "int") (eName 0)) (eAnd (eNot (eOp1 (gIsi "bool") (eName 0))) (eChain gLe gLe (eName 1) (eName 0) (eName 2))))
def m_is_number : Meaning := funSem0 3 b_is_number
theorem ne_is_number : ∀ cs c σ, m_is_number cs ≠ .exc c σ := funSem0_noexc
/-! _law_draws(script); slots 0:script 1:draws 2:cell 3:number 4:first 5:k 6:seed -/
def l__law_draws_1 : S → Out := sIf (tTru isBool (eOp2 gGt (eName 3) (eC (.int 0)))) (sSeq (sDrop (eMut gAppend (eName 1) (aCons (eOp2 gMod (eOp1 gToInt (eName 3)) (eC (.int 997))) (aNil)))) (sSet 3 (eOp2 gFdv (eName 3) (eC (.int 997))))) (sNx)
def l__law_draws_2 : S → Out := sSeq (sSet 3 (eOp1 gAbs (eName 2))) (sSeq (sIf (tTru isBool (eOp2 gLt (eName 3) (eOp2 gPow (eC (.int 10)) (eC (.int 18))))) (sSeq (sSet 4 (eOp2 gMod (eOp1 gToInt (eOp2 gAdd (eOp2 gMul (eName 3) (eC (.int 48271))) (eC (.int 11)))) (eC (.int 2147483647)))) (sSeq (sDrop (eMut gAppend (eName 1) (aCons (eOp2 gMod (eOp1 gToInt (eOp2 gAdd (eOp2 gMul (eName 4) (eC (.int 69621))) (eName 3))) (eC (.int 2147483629))) (aNil)))) (sSeq (sDrop (eMut gAppend (eName 1) (aCons (eOp2 gMod (eOp1 gToInt (eOp2 gAdd (eName 4) (eOp2 gFdv (eName 3) (eC (.int 7))))) (eC (.int 1000003))) (aNil)))) (sSet 3 (eC (.int 0)))))) (sNx)) (sFor (iRange1 (aCons (eC (.int 60)) (aNil))) (gN 5) (l__law_draws_1)))
def l__law_draws_3 : S → Out := sSeq (sSet 6 (eOp2 gMod (eOp1 gToInt (eOp2 gAdd (eOp2 gMul (eName 6) (eC (.int 48271))) (eC (.int 69621)))) (eC (.int 2147483647)))) (sDrop (eMut gAppend (eName 1) (aCons (eOp2 gFdv (eName 6) (eC (.int 5))) (aNil))))
def b__law_draws : S → Out := sSeq (sSet 1 (eLst (aNil))) (sSeq (sFor (iE (eName 0)) (gN 2) (l__law_draws_2)) (sSeq (sSet 6 (eC (.int 1))) (sSeq (sIf (tTru isBool (eOp2 gGt (eOp1 gLen (eName 0)) (eC (.int 0)))) (sSet 6 (eOp2 gAdd (eC (.int 1)) (eOp1 gAbs (eOp2 gIx (eName 0) (eC (.int 0)))))) (sNx)) (sSeq (sFor (iRange1 (aCons (eC (.int 900)) (aNil))) (gN 5) (l__law_draws_3)) (sRet (eOp1 gListRev (eName 1)))))))
def m__law_draws : Meaning := funSem0 7 b__law_draws
theorem ne__law_draws : ∀ cs c σ, m__law_draws cs ≠ .exc c σ := funSem0_noexc
/-! _law_take(draws, bound); slots 0:draws 1:bound -/
def b__law_take : S → Out := sSeq (sIf (tTru isBool (eOp2 gEq (eOp1 gLen (eName 0)) (eC (.int 0)))) (sRet (eC (.int 0))) (sNx)) (sRet (eOp2 gMod (eOp1 gToInt (eMut gPop (eName 0) aNil)) (eName 1)))
def m__law_take : Meaning := funSem0 2 b__law_take
theorem ne__law_take : ∀ cs c σ, m__law_take cs ≠ .exc c σ := funSem0_noexc
/-! _law_alike(found, due); slots 0:found 1:due 2:k -/
def t__law_alike_1 (rec : Meaning) : S → Res Bool := tNotF (tTru truth (eCall rec (mVal (eOp2 gIx (eName 0) (eName 2)) (mVal (eOp2 gIx (eName 1) (eName 2)) (mNil)))))
def e__law_alike_1 : S → Res R := eName 2
def b__law_alike (rec : Meaning) : S → Out := sSeq (sIf (tOrF (tTru truth (eOp1 (gIsi "list") (eName 1))) (tTru truth (eOp1 (gIsi "tuple") (eName 1)))) (sSeq (sIf (tOrF (tTru isBool (eOp2 gNe (eOp1 (gIsi "list") (eName 0)) (eOp1 (gIsi "list") (eName 1)))) (tTru isBool (eOp2 gNe (eOp1 (gIsi "tuple") (eName 0)) (eOp1 (gIsi "tuple") (eName 1))))) (sRet (eC (.bool false))) (sNx)) (sRet (eAnd (eOp2 gEq (eOp1 gLen (eName 0)) (eOp1 gLen (eName 1))) (eOp2 gEq (eLc [2] (iRange1 (aCons (eOp1 gLen (eName 1)) (aNil))) (gN 2) (t__law_alike_1 rec) (e__law_alike_1)) (eLst (aNil)))))) (sNx)) (sSeq (sIf (tTru isBool (eOp2 gIs (eName 1) (eC .none))) (sRet (eOp2 gIs (eName 0) (eC .none))) (sNx)) (sSeq (sIf (tOrF (tTru truth (eOp1 (gIsi "bool") (eName 1))) (tTru truth (eOp1 (gIsi "bool") (eName 0)))) (sRet (eAnd (eOp1 (gIsi "bool") (eName 0)) (eAnd (eOp1 (gIsi "bool") (eName 1)) (eOp2 gEq (eName 0) (eName 1))))) (sNx)) (sSeq (sIf (tTru truth (eOp1 (gIsi "int") (eName 1))) (sRet (eAnd (eOp1 (gIsi "int") (eName 0)) (eOp2 gEq (eName 0) (eName 1)))) (sNx)) (sRet (eAnd (eOp1 (gIsi "str") (eName 0)) (eOp2 gEq (eName 0) (eName 1)))))))
def m__law_alike : Nat → Meaning
  | 0 => fun _ => .bad
  | n + 1 => funSem0 3 (b__law_alike (m__law_alike n))
theorem ne__law_alike : ∀ n cs c σ, m__law_alike n cs ≠ .exc c σ
  | 0, _, _, _ => fun z => by cases z
  | n + 1, cs, c, σ => funSem0_noexc cs c σ
/-! _law_says(told, due); slots 0:told 1:due -/
def b__law_says : S → Out := sRet (eAnd (eOp1 (gIsi "bool") (eName 0)) (eOp2 gEq (eName 0) (eName 1)))
def m__law_says : Meaning := funSem0 2 b__law_says
theorem ne__law_says : ∀ cs c σ, m__law_says cs ≠ .exc c σ := funSem0_noexc
/-! _law_same(actual, due); slots 0:actual 1:due 2:k -/
def l__law_same_1 (rec : Meaning) : S → Out := sIf (tNotF (tTru truth (eCall rec (mVal (eOp2 gIx (eName 0) (eName 2)) (mVal (eOp2 gIx (eName 1) (eName 2)) (mNil)))))) (sRet (eC (.bool false))) (sNx)
def b__law_same (rec : Meaning) : S → Out := sSeq (sIf (tOrF (tTru isBool (eOp2 gIs (eName 1) (eC .none))) (tTru isBool (eOp2 gIs (eName 0) (eC .none)))) (sRet (eAnd (eOp2 gIs (eName 1) (eC .none)) (eOp2 gIs (eName 0) (eC .none)))) (sNx)) (sSeq (sIf (tOrF (tTru truth (eOp1 (gIsi "tuple") (eName 1))) (tTru truth (eOp1 (gIsi "list") (eName 1)))) (sSeq (sIf (tOrF (tTru isBool (eOp2 gNe (eOp1 (gIsi "tuple") (eName 1)) (eOp1 (gIsi "tuple") (eName 0)))) (tTru isBool (eOp2 gNe (eOp1 (gIsi "list") (eName 1)) (eOp1 (gIsi "list") (eName 0))))) (sRet (eC (.bool false))) (sNx)) (sSeq (sIf (tTru isBool (eOp2 gNe (eOp1 gLen (eName 0)) (eOp1 gLen (eName 1)))) (sRet (eC (.bool false))) (sNx)) (sSeq (sFor (iRange1 (aCons (eOp1 gLen (eName 1)) (aNil))) (gN 2) (l__law_same_1 rec)) (sRet (eC (.bool true)))))) (sNx)) (sSeq (sIf (tTru isBool (eOp2 gNe (eOp1 (gIsi "bool") (eName 1)) (eOp1 (gIsi "bool") (eName 0)))) (sRet (eC (.bool false))) (sNx)) (sSeq (sIf (tOrF (tTru isBool (eOp2 gNe (eOp1 (gIsi "int") (eName 1)) (eOp1 (gIsi "int") (eName 0)))) (tTru isBool (eOp2 gNe (eOp1 (gIsi "str") (eName 1)) (eOp1 (gIsi "str") (eName 0))))) (sRet (eC (.bool false))) (sNx)) (sRet (eOp2 gEq (eName 0) (eName 1))))))
def m__law_same : Nat → Meaning
  | 0 => fun _ => .bad
  | n + 1 => funSem0 3 (b__law_same (m__law_same n))
theorem ne__law_same : ∀ n cs c σ, m__law_same n cs ≠ .exc c σ
  | 0, _, _, _ => fun z => by cases z
  | n + 1, cs, c, σ => funSem0_noexc cs c σ
end
end FL.Com

set_option Elab.async false
set_option linter.all false
set_option maxRecDepth 100000
set_option maxHeartbeats 4000000
/-! FL: reckoning with meanings: loops, comprehensions, the defs that many laws have. -/
namespace FL
open PySem
theorem forL_run {g : G} {B : S → Out} (P : Nat → S → Prop) : ∀ (ds : List D) (n : Nat) (σ : S), P n σ → (∀ i d σ, ds[i]? = some d → P (n + i) σ → ∃ σ1, g d σ = some σ1 ∧ ∃ σ2, (B σ1 = .nx σ2 ∨ B σ1 = .cnt σ2) ∧ P (n + i + 1) σ2) →
    ∃ σ', forL g B ds σ = .nx σ' ∧ P (n + ds.length) σ'
  | [], n, σ, h, _ => ⟨σ, rfl, h⟩
  | d :: ds, n, σ, h, st => by
    obtain ⟨σ1, e1, σ2, e2, h2⟩ := st 0 d σ rfl h
    obtain ⟨σ', e, hp⟩ := forL_run P ds (n + 1) σ2 h2 fun i d σ hd hP => by
      obtain ⟨σ1, q1, σ2, q2, q3⟩ := st (i + 1) d σ (by simpa using hd) (by rw [show n + (i + 1) = n + 1 + i by omega]; exact hP)
      exact ⟨σ1, q1, σ2, q2, by rw [show n + 1 + i + 1 = n + (i + 1) + 1 by omega]; exact q3⟩
    refine ⟨σ', ?_, by rw [List.length_cons, show n + (ds.length + 1) = n + 1 + ds.length by omega]; exact hp⟩
    unfold forL
    rw [e1]
    rcases e2 with e2 | e2 <;> simp only [e2] <;> exact e
theorem for_run {g : G} {B : S → Out} {ds : List D} {σ : S} (P : Nat → S → Prop) (h : P 0 σ) (st : ∀ i d σ, ds[i]? = some d → P i σ → ∃ σ1, g d σ = some σ1 ∧ ∃ σ2, (B σ1 = .nx σ2 ∨ B σ1 = .cnt σ2) ∧ P (i + 1) σ2) :
    ∃ σ', forL g B ds σ = .nx σ' ∧ P ds.length σ' := by
  obtain ⟨σ', e, p⟩ := forL_run P ds 0 σ h fun i d σ hd hp => by
    rw [Nat.zero_add] at hp ⊢
    exact st i d σ hd hp
  rw [Nat.zero_add] at p
  exact ⟨σ', e, p⟩
theorem while_run {T : S → Res Bool} {B : S → Out} (P : S → Prop) (μ : S → Nat) (Q : S → Prop) (st : ∀ σ, P σ → (∃ σ1, T σ = .ok false σ1 ∧ Q σ1) ∨ ∃ σ1, T σ = .ok true σ1 ∧ ∃ σ2, (B σ1 = .nx σ2 ∨ B σ1 = .cnt σ2) ∧ P σ2 ∧ μ σ2 < μ σ) :
    ∀ (n : Nat) (σ : S), μ σ ≤ n → P σ → ∃ σ', sWhile T B σ = .nx σ' ∧ Q σ'
  | n, σ, hn, hp => by
    rcases st σ hp with ⟨σ1, e, q⟩ | ⟨σ1, e1, σ2, e2, hp2, hm⟩
    · exact ⟨σ1, sWhile_stop e, q⟩
    · rw [sWhile_next e1 e2]
      cases n with
      | zero => omega
      | succ n => exact while_run P μ Q st n σ2 (by omega) hp2
theorem lcL_runN {vs : List Nat} {g : G} {T : S → Res Bool} {E : S → Res R} (P : Nat → S → List D → Prop) : ∀ (ds : List D) (n : Nat) (σ : S) (acc : List D), P n σ acc →
    (∀ i d σ acc, ds[i]? = some d → P (n + i) σ acc → ∃ σ1, g d σ = some σ1 ∧ ((∃ σ2, T σ1 = .ok false σ2 ∧ P (n + i + 1) (wipeS σ2 vs) acc) ∨ ∃ σ2 x σ3, T σ1 = .ok true σ2 ∧ (E σ2).bind toD = .ok x σ3 ∧ P (n + i + 1) (wipeS σ3 vs) (acc ++ [x]))) →
    ∃ xs σ', lcL vs g T E ds σ = .ok xs σ' ∧ P (n + ds.length) σ' (acc ++ xs)
  | [], n, σ, acc, h, _ => ⟨[], σ, rfl, by rw [List.append_nil]; exact h⟩
  | d :: ds, n, σ, acc, h, st => by
    have nxt : ∀ (σ2 : S) (acc2 : List D), P (n + 0 + 1) σ2 acc2 → ∃ xs σ', lcL vs g T E ds σ2 = .ok xs σ' ∧ P (n + (ds.length + 1)) σ' (acc2 ++ xs) := fun σ2 acc2 h2 => by
      obtain ⟨xs, σ', e, hp⟩ := lcL_runN P ds (n + 1) σ2 acc2 h2 fun i d σ acc hd hP => by
        obtain ⟨σ1, q1, q2⟩ := st (i + 1) d σ acc (by simpa using hd) (by rw [show n + (i + 1) = n + 1 + i by omega]; exact hP)
        refine ⟨σ1, q1, ?_⟩
        rw [show n + 1 + i + 1 = n + (i + 1) + 1 by omega]
        exact q2
      exact ⟨xs, σ', e, by rw [show n + (ds.length + 1) = n + 1 + ds.length by omega]; exact hp⟩
    obtain ⟨σ1, e1, e2⟩ := st 0 d σ acc rfl h
    rcases e2 with ⟨σ2, e2, h2⟩ | ⟨σ2, x, σ3, e2, e3, h2⟩
    · obtain ⟨xs, σ', e, hp⟩ := nxt _ _ h2
      refine ⟨xs, σ', ?_, hp⟩
      unfold lcL
      rw [e1]
      simp only [e2]
      exact e
    · obtain ⟨xs, σ', e, hp⟩ := nxt _ _ h2
      refine ⟨x :: xs, σ', ?_, by rw [List.append_assoc] at hp; exact hp⟩
      unfold lcL
      rw [e1]
      simp only [e2, if_true, e3, e]
theorem lc_run {vs : List Nat} {g : G} {T : S → Res Bool} {E : S → Res R} {ds : List D} {σ : S} (P : Nat → S → List D → Prop) (h : P 0 σ [])
    (st : ∀ i d σ acc, ds[i]? = some d → P i σ acc → ∃ σ1, g d σ = some σ1 ∧ ((∃ σ2, T σ1 = .ok false σ2 ∧ P (i + 1) (wipeS σ2 vs) acc) ∨ ∃ σ2 x σ3, T σ1 = .ok true σ2 ∧ (E σ2).bind toD = .ok x σ3 ∧ P (i + 1) (wipeS σ3 vs) (acc ++ [x]))) :
    ∃ xs σ', lcL vs g T E ds σ = .ok xs σ' ∧ P ds.length σ' xs := by
  obtain ⟨xs, σ', e, p⟩ := lcL_runN P ds 0 σ [] h fun i d σ acc hd hp => by
    rw [Nat.zero_add] at hp ⊢
    exact st i d σ acc hd hp
  rw [Nat.zero_add, List.nil_append] at p
  exact ⟨xs, σ', e, p⟩
/-- no item is taken -/
theorem lc_none {vs : List Nat} {g : G} {T : S → Res Bool} {E : S → Res R} {σ : S} : ∀ (ds : List D), (∀ d ∈ ds, ∃ σ1 σ2, g d σ = some σ1 ∧ T σ1 = .ok false σ2 ∧ wipeS σ2 vs = σ) → lcL vs g T E ds σ = .ok [] σ
  | [], _ => rfl
  | d :: ds, h => by
    obtain ⟨σ1, σ2, e1, e2, e3⟩ := h d List.mem_cons_self
    unfold lcL
    rw [e1]
    simp only [e2, Bool.false_eq_true, if_false, e3]
    exact lc_none ds fun d hd => h d (List.mem_cons_of_mem _ hd)
/-- each item by f, the slots as they were -/
theorem lc_map {vs : List Nat} {g : G} {T : S → Res Bool} {E : S → Res R} {σ : S} (p : D → Bool) (f : D → D) : ∀ (ds : List D), (∀ d ∈ ds, ∃ σ1 σ2, g d σ = some σ1 ∧ T σ1 = .ok (p d) σ2 ∧ (p d = false → wipeS σ2 vs = σ) ∧ (p d = true → ∃ σ3, (E σ2).bind toD = .ok (f d) σ3 ∧ wipeS σ3 vs = σ)) →
    lcL vs g T E ds σ = .ok ((ds.filter p).map f) σ
  | [], _ => rfl
  | d :: ds, h => by
    obtain ⟨σ1, σ2, e1, e2, e3, e4⟩ := h d List.mem_cons_self
    have ih := lc_map p f ds fun d hd => h d (List.mem_cons_of_mem _ hd)
    unfold lcL
    rw [e1]
    simp only [e2]
    cases hp : p d with
    | false =>
      rw [List.filter_cons_of_neg (by rw [hp]; decide)]
      simp only [Bool.false_eq_true, if_false, e3 hp]
      exact ih
    | true =>
      obtain ⟨σ3, e5, e6⟩ := e4 hp
      rw [List.filter_cons_of_pos hp]
      simp only [if_true, e5, e6, ih, List.map_cons]
/-! ### operations by kind -/
@[simp] theorem gEq_int (a b : Int) : gEq (.int a) (.int b) = some (.d (.bool (decide (a = b)))) := by
  unfold gEq
  rw [if_pos ⟨rfl, rfl⟩]
  rfl
@[simp] theorem gNe_int (a b : Int) : gNe (.int a) (.int b) = some (.d (.bool (!decide (a = b)))) := by
  unfold gNe
  rw [if_pos ⟨rfl, rfl⟩]
  rfl
@[simp] theorem gEq_bool (a b : Bool) : gEq (.bool a) (.bool b) = some (.d (.bool (a == b))) := by
  unfold gEq
  rw [if_pos ⟨rfl, rfl⟩]
  rfl
@[simp] theorem gNe_bool (a b : Bool) : gNe (.bool a) (.bool b) = some (.d (.bool (!(a == b)))) := by
  unfold gNe
  rw [if_pos ⟨rfl, rfl⟩]
  rfl
@[simp] theorem gEq_nil : gEq (.list []) (.list []) = some (.d (.bool true)) := by
  unfold gEq
  rw [if_pos ⟨rfl, rfl⟩]
  rfl
@[simp] theorem gNe_nil : gNe (.list []) (.list []) = some (.d (.bool false)) := by
  unfold gNe
  rw [if_pos ⟨rfl, rfl⟩]
  rfl
@[simp] theorem atI_z {α : Type} (x : α) (xs : List α) : L2.atI (x :: xs) 0 = some x := by
  simp [L2.atI, L2.ixN]
theorem atI_n {α : Type} (xs : List α) (i : Nat) (h : i < xs.length) : L2.atI xs (i : Nat) = some xs[i] := by
  unfold L2.atI L2.ixN
  rw [if_pos (by omega), if_pos (by omega)]
  simp [h]
@[simp] theorem atI_1 {α : Type} (x y : α) (xs : List α) : L2.atI (x :: y :: xs) 1 = some y := atI_n (x :: y :: xs) 1 (by simp)
@[simp] theorem atI_2 {α : Type} (x y z : α) (xs : List α) : L2.atI (x :: y :: z :: xs) 2 = some z := atI_n (x :: y :: z :: xs) 2 (by simp)
@[simp] theorem atI_3 {α : Type} (x y z u : α) (xs : List α) : L2.atI (x :: y :: z :: u :: xs) 3 = some u := atI_n (x :: y :: z :: u :: xs) 3 (by simp)
@[simp] theorem mulOk_l (a b : Int) (h : a.natAbs < 2 ^ 64) : mulOk a b = true := by
  unfold mulOk
  rw [decide_eq_true h]; rfl
@[simp] theorem mulOk_r (a b : Int) (h : b.natAbs < 2 ^ 64) : mulOk a b = true := by
  unfold mulOk
  rw [decide_eq_true h]; simp
theorem mulOk_bits {a b : Int} (m n : Nat) (h : a.natAbs < 2 ^ m) (h2 : b.natAbs < 2 ^ n) (h3 : m + n ≤ 134217728) : mulOk a b = true := by
  have h1 : Builtin.Int.intBits a ≤ m := PySem.intBits_le_iff.mpr h
  have h2 : Builtin.Int.intBits b ≤ n := PySem.intBits_le_iff.mpr h2
  unfold mulOk
  rw [decide_eq_true (show Builtin.Int.intBits a + Builtin.Int.intBits b ≤ 134217728 by omega)]
  simp
theorem seq_nx {A B : S → Out} {σ σ1 : S} {o : Out} (h : A σ = .nx σ1) (k : B σ1 = o) : sSeq A B σ = o := by
  unfold sSeq
  rw [h]
  exact k
theorem fun_ret {n : Nat} {B : S → Out} {σ σ' : S} {x : D} (h : B (σ ++ List.replicate (n - σ.length) none) = .ret (.d x) σ') : funSem0 n B σ = .ok (.d x) (cut σ σ') := by
  unfold funSem0 funSem
  rw [h]
theorem fun_own {n : Nat} {B : S → Out} {σ σ' : S} {x : List D} (h : B (σ ++ List.replicate (n - σ.length) none) = .ret (.own x) σ') : funSem0 n B σ = .ok (.own x) (cut σ σ') := by
  unfold funSem0 funSem
  rw [h]
abbrev iL (ns : List Int) : List D := ns.map PyData.int
theorem iL_get {ns : List Int} {i : Nat} {d : D} (h : (iL ns)[i]? = some d) : ∃ n, ns[i]? = some n ∧ d = .int n := by
  rw [List.getElem?_map] at h
  obtain ⟨n, h1, h2⟩ := Option.map_eq_some_iff.mp h
  exact ⟨n, h1, h2.symm⟩
namespace Com
/-! ### is_number -/
def isNum : D → Int → Int → Bool
  | .int i, a, b => decide (a ≤ i) && decide (i ≤ b)
  | _, _, _ => false
def noDict : D → Bool
  | .dict _ => false
  | _ => true
theorem is_number_eq (v : D) (a b : Int) (h : noDict v = true) : m_is_number [some (.d v), some (.d (.int a)), some (.d (.int b))] = .ok (.d (.bool (isNum v a b))) [none, none, none] := by
  cases v with
  | dict _ => cases h
  | int i => by_cases h1 : a ≤ i <;> simp [m_is_number, b_is_number, isNum, h1]
  | _ => simp [m_is_number, b_is_number, isNum]
/-! ### _law_take -/
def takeX (ds : List Int) (b : Int) : Int := match ds.getLast? with
  | none => 0
  | some n => n % b
theorem takeX_pos (ds : List Int) {b : Int} (h : 0 < b) : 0 ≤ takeX ds b := by
  unfold takeX
  split
  · exact Int.le_refl _
  · exact Int.emod_nonneg _ (by omega)
theorem takeX_lt (ds : List Int) {b : Int} (h : 0 < b) : takeX ds b < b := by
  unfold takeX
  split
  · exact h
  · exact Int.emod_lt_of_pos _ h
theorem take_eq (ds : List Int) (b : Int) (h : 0 < b) : m__law_take [some (.l .par (iL ds)), some (.d (.int b))] = .ok (.d (.int (takeX ds b))) [some (.l .par (iL ds.dropLast)), none] := by
  cases hd : ds.reverse with
  | nil =>
    have : ds = [] := by simpa using hd
    subst this
    simp [m__law_take, b__law_take, takeX]
  | cons n r =>
    have e : ds = r.reverse ++ [n] := by
      have := congrArg List.reverse hd
      simpa using this
    subst e
    have h1 : iL (r.reverse ++ [n]) ≠ [] := by simp
    have h2 : (iL (r.reverse ++ [n]))[(iL (r.reverse ++ [n])).length - 1]? = some (.int n) := by simp
    have h3 : (iL (r.reverse ++ [n])).dropLast = iL (r.reverse ++ [n]).dropLast := by simp
    have h4 : takeX (r.reverse ++ [n]) b = n % b := by simp [takeX]
    rw [h4]
    generalize iL (r.reverse ++ [n]) = es at h1 h2 h3
    simp [m__law_take, b__law_take, h1, h2, h3, posB, h]
end Com
end FL
namespace FL
open PySem
@[simp] theorem divOk_of (i j : Int) (h : 0 < j) (h2 : j.natAbs < 2 ^ 64) : divOk i j = true := by
  unfold divOk
  rw [decide_eq_true h, Bool.true_and, decide_eq_true_iff]
  by_cases h0 : j.natAbs = 0
  · omega
  · have := (Nat.log2_lt h0).mpr h2
    omega
@[simp] theorem powOk_10 : powOk 10 18 = true := by decide
theorem seq_eq {A B : S → Out} {σ σ1 : S} (h : A σ = .nx σ1) : sSeq A B σ = B σ1 := seq_nx h rfl
@[simp] theorem cut_d1 (x : D) (σ' : S) : cut [some (.d x)] σ' = [none] := by cases σ' <;> rfl
@[simp] theorem cut_d2 (x y : D) (σ' : S) : cut [some (.d x), some (.d y)] σ' = [none, none] := by
  cases σ' with
  | nil => rfl
  | cons c σ' => cases σ' <;> rfl
@[simp] theorem cut_d3 (x y z : D) (σ' : S) : cut [some (.d x), some (.d y), some (.d z)] σ' = [none, none, none] := by
  match σ' with
  | [] => rfl
  | [_] => rfl
  | [_, _] => rfl
  | _ :: _ :: _ :: _ => rfl
theorem iL_snoc (ds : List Int) (x : Int) : iL ds ++ [PyData.int x] = iL (ds ++ [x]) := by simp
namespace Com
/-! ### _law_draws -/
/-- a slot that may be set -/
def Fr (c : Option C) : Prop := c = none ∨ ∃ x, c = some (.d x)
theorem Fr.none : Fr none := .inl rfl
theorem Fr.d {x : D} : Fr (some (.d x)) := .inr ⟨x, rfl⟩
theorem draws_ok (ns : List Int) (h : ns.length ≤ 63) : ∃ ds : List Int, m__law_draws [some (.d (.list (iL ns)))] = .ok (.own (iL ds)) [none] := by
  have z24 : sizeLine = 16777216 := by decide
  have in1 : ∀ (num : Int) (ds : List Int) (m : Nat) (a c e : Option C), Fr e → 0 ≤ num → ds.length ≤ m → m + 60 < sizeLine →
      ∃ σ', forL (gN 5) l__law_draws_1 (rngL 0 60) [some (.d (.list (iL ns))), some (.l .own (iL ds)), a, some (.d (.int num)), c, e, none] = .nx σ' ∧
        ∃ (num' : Int) (ds' : List Int) (e' : Option C), Fr e' ∧ ds'.length ≤ m + 60 ∧ σ' = [some (.d (.list (iL ns))), some (.l .own (iL ds')), a, some (.d (.int num')), c, e', none] := by
    intro num ds m a c e he h0 h1 h2
    obtain ⟨σ', e1, hp⟩ := for_run (g := gN 5) (B := l__law_draws_1) (ds := rngL 0 60) (σ := [some (.d (.list (iL ns))), some (.l .own (iL ds)), a, some (.d (.int num)), c, e, none])
      (fun i σ => ∃ (num' : Int) (ds' : List Int) (e' : Option C), Fr e' ∧ 0 ≤ num' ∧ ds'.length ≤ m + i ∧ σ = [some (.d (.list (iL ns))), some (.l .own (iL ds')), a, some (.d (.int num')), c, e', none]) ⟨num, ds, e, he, h0, h1, rfl⟩
      fun i d σ hd ⟨num', ds', e', he', q0, q1, q2⟩ => by
        have hi : i < 60 := by
          have := (List.getElem?_eq_some_iff.mp hd).1
          unfold rngL at this
          rw [List.length_map, List.length_range] at this
          exact this
        have hl : ds'.length < sizeLine := by omega
        subst q2
        refine ⟨[some (.d (.list (iL ns))), some (.l .own (iL ds')), a, some (.d (.int num')), c, some (.d d), none], by rcases he' with rfl | ⟨x, rfl⟩ <;> simp, ?_⟩
        by_cases hn : 0 < num'
        · refine ⟨[some (.d (.list (iL ns))), some (.l .own (iL (ds' ++ [num' % 997]))), a, some (.d (.int (num' / 997))), c, some (.d d), none], .inl ?_, num' / 997, ds' ++ [num' % 997], _, Fr.d, by omega, by simp; omega, rfl⟩
          simp [l__law_draws_1, hn, hl]
        · refine ⟨[some (.d (.list (iL ns))), some (.l .own (iL ds')), a, some (.d (.int num')), c, some (.d d), none], .inl ?_, num', ds', _, Fr.d, q0, by omega, rfl⟩
          simp [l__law_draws_1, hn]
    obtain ⟨num', ds', e', he', _, q1, q2⟩ := hp
    exact ⟨σ', e1, num', ds', e', he', q1, q2⟩
  have rl60 : (rngL 0 60).length = 60 := by simp [rngL]
  -- the cells
  have out : ∃ σ', forL (gN 2) l__law_draws_2 (iL ns) [some (.d (.list (iL ns))), some (.l .own []), none, none, none, none, none] = .nx σ' ∧
      ∃ (ds : List Int) (a b c e : Option C), Fr e ∧ ds.length ≤ 62 * 63 ∧ σ' = [some (.d (.list (iL ns))), some (.l .own (iL ds)), a, b, c, e, none] := by
    obtain ⟨σ', e1, hp⟩ := for_run (g := gN 2) (B := l__law_draws_2) (ds := iL ns) (σ := [some (.d (.list (iL ns))), some (.l .own (iL [])), none, none, none, none, none])
      (fun i σ => ∃ (ds : List Int) (a b c e : Option C), Fr a ∧ Fr b ∧ Fr c ∧ Fr e ∧ ds.length ≤ 62 * i ∧ σ = [some (.d (.list (iL ns))), some (.l .own (iL ds)), a, b, c, e, none]) ⟨[], none, none, none, none, .none, .none, .none, .none, by simp, rfl⟩
      fun i d σ hd ⟨ds, a, b, c, e, ha, hb, hc, he, q1, q2⟩ => by
        have hi : i < ns.length := by
          have := (List.getElem?_eq_some_iff.mp hd).1
          rw [List.length_map] at this
          exact this
        obtain ⟨n, _, rfl⟩ := iL_get hd
        subst q2
        refine ⟨[some (.d (.list (iL ns))), some (.l .own (iL ds)), some (.d (.int n)), b, c, e, none], by rcases ha with rfl | ⟨x, rfl⟩ <;> simp, ?_⟩
        obtain ⟨num, hnum⟩ : ∃ num, (if n < 0 then -n else n) = num := ⟨_, rfl⟩
        have n0 : 0 ≤ num := by rw [← hnum]; split <;> omega
        have s1 : sSet 3 (eOp1 gAbs (eName 2)) [some (.d (.list (iL ns))), some (.l .own (iL ds)), some (.d (.int n)), b, c, e, none] = .nx [some (.d (.list (iL ns))), some (.l .own (iL ds)), some (.d (.int n)), some (.d (.int num)), c, e, none] := by
          rcases hb with rfl | ⟨x, rfl⟩ <;> simp [hnum]
        unfold l__law_draws_2
        rw [seq_eq s1]
        have hl1 : ds.length < sizeLine := by omega
        have hl2 : ds.length + 1 < sizeLine := by omega
        by_cases hn : num < 1000000000000000000
        · obtain ⟨σ', e2, num', ds', e', he', l', rfl⟩ := in1 0 (ds ++ [((num * 48271 + 11) % 2147483647 * 69621 + num) % 2147483629, ((num * 48271 + 11) % 2147483647 + num / 7) % 1000003]) (62 * i + 2) (some (.d (.int n))) (some (.d (.int ((num * 48271 + 11) % 2147483647)))) e he (by omega) (by simp; omega) (by omega)
          refine ⟨_, .inl ?_, ds', some (.d (.int n)), some (.d (.int num')), some (.d (.int ((num * 48271 + 11) % 2147483647))), e', Fr.d, Fr.d, Fr.d, he', by omega, rfl⟩
          rw [← e2]
          rcases hc with rfl | ⟨x, rfl⟩ <;> simp [hn, hl1, hl2, rl60, rOk]
        · obtain ⟨σ', e2, num', ds', e', he', l', rfl⟩ := in1 num ds (62 * i) (some (.d (.int n))) c e he n0 q1 (by omega)
          refine ⟨_, .inl ?_, ds', some (.d (.int n)), some (.d (.int num')), c, e', Fr.d, Fr.d, hc, he', by omega, rfl⟩
          rw [← e2]
          simp [hn, rOk]
    obtain ⟨ds, a, b, c, e, _, _, _, he, q1, q2⟩ := hp
    exact ⟨σ', e1, ds, a, b, c, e, he, by rw [List.length_map] at q1; omega, q2⟩
  obtain ⟨σ1, e1, ds, a, b, c, e, he, l1, rfl⟩ := out
  -- the seed
  obtain ⟨sd, hsd⟩ : ∃ sd : Int, sIf (tTru isBool (eOp2 gGt (eOp1 gLen (eName 0)) (eC (.int 0)))) (sSet 6 (eOp2 gAdd (eC (.int 1)) (eOp1 gAbs (eOp2 gIx (eName 0) (eC (.int 0)))))) sNx [some (.d (.list (iL ns))), some (.l .own (iL ds)), a, b, c, e, some (.d (.int 1))] = .nx [some (.d (.list (iL ns))), some (.l .own (iL ds)), a, b, c, e, some (.d (.int sd))] := by
    cases ns with
    | nil => exact ⟨1, by simp⟩
    | cons n ns => exact ⟨1 + (if n < 0 then -n else n), by
        have : (0 : Int) < ((iL (n :: ns)).length : Int) := by simp <;> omega
        simp [this]⟩
  have last : ∃ σ', forL (gN 5) l__law_draws_3 (rngL 0 900) [some (.d (.list (iL ns))), some (.l .own (iL ds)), a, b, c, e, some (.d (.int sd))] = .nx σ' ∧
      ∃ (ds : List Int) (a b c e f : Option C), σ' = [some (.d (.list (iL ns))), some (.l .own (iL ds)), a, b, c, e, f] := by
    obtain ⟨σ', e1, hp⟩ := for_run (g := gN 5) (B := l__law_draws_3) (ds := rngL 0 900) (σ := [some (.d (.list (iL ns))), some (.l .own (iL ds)), a, b, c, e, some (.d (.int sd))])
      (fun i σ => ∃ (ds : List Int) (e : Option C) (sd : Int), Fr e ∧ ds.length ≤ 62 * 63 + i ∧ σ = [some (.d (.list (iL ns))), some (.l .own (iL ds)), a, b, c, e, some (.d (.int sd))]) ⟨ds, e, sd, he, by omega, rfl⟩
      fun i d σ hd ⟨ds, e, sd, he, q1, q2⟩ => by
        have hi : i < 900 := by
          have := (List.getElem?_eq_some_iff.mp hd).1
          unfold rngL at this
          rw [List.length_map, List.length_range] at this
          exact this
        have hl1 : ds.length < sizeLine := by omega
        subst q2
        refine ⟨[some (.d (.list (iL ns))), some (.l .own (iL ds)), a, b, c, some (.d d), some (.d (.int sd))], by rcases he with rfl | ⟨x, rfl⟩ <;> simp, ?_⟩
        refine ⟨[some (.d (.list (iL ns))), some (.l .own (iL (ds ++ [(sd * 48271 + 69621) % 2147483647 / 5]))), a, b, c, some (.d d), some (.d (.int ((sd * 48271 + 69621) % 2147483647)))], .inl ?_, _, _, _, Fr.d, by simp; omega, rfl⟩
        simp [l__law_draws_3, hl1]
    obtain ⟨ds, e, sd, _, _, q2⟩ := hp
    exact ⟨σ', e1, ds, a, b, c, e, _, q2⟩
  obtain ⟨σ2, e2, ds2, a2, b2, c2, e2', f2, rfl⟩ := last
  refine ⟨ds2.reverse, ?_⟩
  have key : b__law_draws ([some (.d (.list (iL ns)))] ++ List.replicate (7 - [some (C.d (.list (iL ns)))].length) none) = .ret (.own (iL ds2.reverse)) [some (.d (.list (iL ns))), some (.l .own (iL ds2)), a2, b2, c2, e2', f2] := by
    unfold b__law_draws
    rw [seq_eq (σ1 := [some (.d (.list (iL ns))), some (.l .own []), none, none, none, none, none]) (by simp)]
    rw [seq_eq (σ1 := [some (.d (.list (iL ns))), some (.l .own (iL ds)), a, b, c, e, none]) (by simp [e1])]
    rw [seq_eq (σ1 := [some (.d (.list (iL ns))), some (.l .own (iL ds)), a, b, c, e, some (.d (.int 1))]) (by simp)]
    rw [seq_eq hsd]
    rw [seq_eq (σ1 := [some (.d (.list (iL ns))), some (.l .own (iL ds2)), a2, b2, c2, e2', f2]) (by simp [e2, rOk])]
    simp
  unfold m__law_draws
  rw [fun_own key, cut_d1]
theorem says_bool (k : Bool) (l : Bool) : m__law_says [some (.d (.bool k)), some (.d (.bool l))] = .ok (.d (.bool (k == l))) [none, none] := by
  simp [m__law_says, b__law_says]
/-! ### _law_alike -/
/-- data of depth below n, its rows not too long -/
inductive Sm : Nat → D → Prop
  | none (n : Nat) : Sm (n + 1) .none
  | bool (n : Nat) (b : Bool) : Sm (n + 1) (.bool b)
  | int (n : Nat) (i : Int) : Sm (n + 1) (.int i)
  | str (n : Nat) (z : Str) : PyData.strOk z = true → Sm (n + 1) (.str z)
  | list (n : Nat) (ds : List D) : ds.length ≤ 16777216 → (∀ d ∈ ds, Sm n d) → Sm (n + 1) (.list ds)
  | tuple (n : Nat) (ds : List D) : ds.length ≤ 16777216 → (∀ d ∈ ds, Sm n d) → Sm (n + 1) (.tuple ds)
theorem rng_mem {lo : Int} {n : Nat} {d : D} (h : d ∈ rngL lo n) : ∃ i : Nat, i < n ∧ d = .int (lo + i) := by
  unfold rngL at h
  obtain ⟨i, hi, rfl⟩ := List.mem_map.mp h
  exact ⟨i, List.mem_range.mp hi, rfl⟩
theorem eqv_str (z : Str) : PyData.eqv (.str z) (.str z) = true := by
  show (z == z) = true
  exact beq_self_eq_true z
theorem alike_self : ∀ (n : Nat) (d : D), Sm n d → m__law_alike n [some (.d d), some (.d d)] = .ok (.d (.bool true)) [none, none]
  | 0, _, h => by cases h
  | n + 1, d, h => by
    have loop : ∀ (ds : List D) (c : D), (itemsOf c = some ds) → (∀ i : Int, gIx c (.int i) = (L2.atI ds i).map R.d) → ds.length ≤ 16777216 → (∀ d ∈ ds, Sm n d) →
        lcL [2] (gN 2) (t__law_alike_1 (m__law_alike n)) e__law_alike_1 (rngL 0 ds.length) [some (.d c), some (.d c), none] = .ok [] [some (.d c), some (.d c), none] := fun ds c hc hg hl hs => by
      refine lc_none _ fun d hd => ?_
      obtain ⟨i, hi, rfl⟩ := rng_mem hd
      have ha : L2.atI ds ((0 : Int) + (i : Int)) = some ds[i] := by
        rw [Int.zero_add]
        exact atI_n ds i hi
      have ih := alike_self n ds[i] (hs _ (List.getElem_mem hi))
      refine ⟨[some (.d c), some (.d c), some (.d (.int (0 + i)))], [some (.d c), some (.d c), some (.d (.int (0 + i)))], by simp, ?_, by simp⟩
      have gx := hg (0 + i)
      rw [ha] at gx
      simp only [Option.map_some] at gx
      generalize (0 : Int) + (i : Int) = k at gx
      simp [-gIx, t__law_alike_1, gx, ih]
    cases h with
    | none => simp [m__law_alike, b__law_alike]
    | bool _ b => simp [m__law_alike, b__law_alike]
    | int _ i => simp [m__law_alike, b__law_alike]
    | str _ z hz =>
      have : gEq (.str z) (.str z) = some (.d (.bool true)) := by
        unfold gEq
        rw [if_pos ⟨by simp [SeqAt.shaped, PyData.canLay0, hz, PyData.depth], by simp [SeqAt.shaped, PyData.canLay0, hz, PyData.depth]⟩, eqv_str]
      simp [m__law_alike, b__law_alike, this]
    | list _ ds hl hs =>
      have L := loop ds (.list ds) rfl (fun i => rfl) hl hs
      have hr : rOk (ds.length : Int) := ⟨by omega, by omega⟩
      simp [m__law_alike, b__law_alike, L, hr]
    | tuple _ ds hl hs =>
      have L := loop ds (.tuple ds) rfl (fun i => rfl) hl hs
      have hr : rOk (ds.length : Int) := ⟨by omega, by omega⟩
      simp [m__law_alike, b__law_alike, L, hr]
end Com
@[simp] theorem sizeLine_val : sizeLine = 16777216 := by decide
end FL

set_option Elab.async false
set_option linter.all false
set_option maxRecDepth 100000
set_option maxHeartbeats 1000000
/-! FL: more constructs: *e in a row, gcd, o[i] op= e, constants that are tuples. -/
namespace FL
open PySem PySem.Spec PyProof.Rows L2
section
variable {X : Cx} {W : WX} {a b c e o : Expr} {es : List Expr} {Ea Eb Ec E E0 Ei : S → Res R} {A : S → Res (List D)} {pos p p2 pos2 : Pos}
/-! ### *e in a row -/
@[simp] def rowOf : D → Option (List D)
  | .list ds => some ds
  | .tuple ds => some ds
  | _ => none
@[simp] def aStar (E : S → Res R) (A : S → Res (List D)) (σ : S) : Res (List D) := (E σ).bind fun r σ1 => (toD r σ1).bind fun d σ2 => match rowOf d with
  | some xs => (A σ2).bind fun ds σ3 => .ok (xs ++ ds) σ3
  | none => .bad
theorem rowOf_ok {K : PySem.W.Frag} {H : Hp} {d : D} {v : V} {xs : List D} (h : Fz K H d v) (e : rowOf d = some xs) : ∃ q ys, v = V.ref q ∧ (SqT K H q ys ∨ SqL K H q ys) ∧ FzAll K H xs ys := by
  have hv := h.view
  unfold rowOf at e
  split at e
  · cases e
    obtain ⟨q, ys, rfl, h1, h2⟩ := view_lst hv
    exact ⟨q, ys, rfl, .inr (.inl h1), h2⟩
  · cases e
    obtain ⟨q, ys, rfl, h1, h2⟩ := view_tup hv
    exact ⟨q, ys, rfl, .inl h1, h2⟩
  · cases e
theorem da_star (ha : DE X W e E) (hr : DA X W es A) (hs : starEach (.Starred e p :: es) X.env = (true, eval e X.env) :: starEach es X.env := by rfl) : DA X W (.Starred e p :: es) (aStar E A) := by
  refine pa_weak (StX.pa_star (de_frz ha) hr hs) fun σv H Q ⟨σ, s, h⟩ => ⟨σ, s, ?_⟩
  unfold aStar at h
  unfold eFrz
  cases ea : E σ with
  | bad => rw [ea] at h; exact False.elim h
  | exc c σ1 => rw [ea] at h; exact h
  | ok r σ1 =>
    rw [ea] at h
    simp only [Res.bind] at h ⊢
    rcases toD_cases r σ1 with ⟨d, σ2, ed⟩ | ed
    · rw [ed] at h ⊢
      simp only at h ⊢
      intro v H1 st rr
      cases er : rowOf d with
      | none => rw [er] at h; exact False.elim h
      | some xs =>
        rw [er] at h
        obtain ⟨q, ys, rfl, hq, hf⟩ := rowOf_ok rr er
        refine ⟨q, ys, rfl, hq, σ2, st.rel, ?_⟩
        simp only at h
        cases ee : A σ2 with
        | bad => rw [ee] at h; exact False.elim h
        | exc c σ3 => rw [ee] at h; exact Post.exc_later h st
        | ok ds σ3 =>
          rw [ee] at h
          intro vs H2 st2 rr2
          exact h _ _ (st.trans st2) ((FzAll.mono (st2.imm st.rel) xs hf).append rr2)
    · rw [ed] at h
      exact False.elim h
/-! ### math.gcd -/
@[simp] def gGcd : D → D → Option R
  | .int i, .int j => some (.d (.int ((Nat.gcd i.natAbs j.natAbs : Nat) : Int)))
  | _, _ => none
theorem gGcd_ok {K : PySem.W.Frag} : Op2 K (fun v w H Q => rGcd [v, w] H Q) gGcd := by
  intro a b va vb H Q res ha hb e q
  unfold gGcd at e
  split at e
  · cases e
    exact ⟨_, _, by rw [view_int ha, view_int hb], q _ _ new_int⟩
  · cases e
theorem de_gcd {x : Str} (hm : X.mg x = some (.builtin "math.gcd")) (ha : DE X W a Ea) (hb : DE X W b Eb) (hg : Gl X x := by rfl) (hdb : (x == ("__debug__" : Str)) = false := by decide)
    (he : starEach (a :: [b]) X.env = (false, eval a X.env) :: starEach [b] X.env := by rfl) (he2 : starEach (b :: []) X.env = (false, eval b X.env) :: starEach [] X.env := by rfl)
    (hpl : (backTo pos (starEach [b] X.env)).any (·.1) = false := by rfl) : DE X W (.Call (.Name x p) [a, b] [] pos) (eOp2 gGcd Ea Eb) :=
  pe_weak (pe_callBfun (cr_gcd) hg hm (pa_cons ha (pa_cons hb pa_nil he2) he) hdb he hpl) fun _ _ _ h => post_op2 gGcd_ok h
/-! ### o[i] op= e -/
theorem get_list : PGet X (rIxL X.K) := by
  intro pins s σ H x y v u Q I rx ry h
  obtain ⟨p, xs, i, z, rfl, rfl, hq, he, q⟩ := h
  cases rx
  obtain ⟨t, rfl⟩ := ry
  obtain ⟨its, r, pl, hz⟩ := I.list hq
  obtain ⟨j, h1, h2, h3, h4, h5⟩ := atI_get he
  obtain ⟨w, ew, rw'⟩ := r.get h2
  have hl := r.length
  have hn := line63
  have fin : EP X pins σ Q w s := ⟨z, H, I, rw', q⟩
  by_cases h0 : 0 ≤ i
  · have hj : i.toNat = j := by
      rw [seqIndex_of h0 h5] at h1
      exact Option.some.inj h1
    exact wpAny_getItem_list pl.isList h0 (by omega) (by rw [hj]; simpa using ew) fin
  · have hj : (i + (its.toArray.size : Int)).toNat = j := by
      rw [seqIndex_neg (by omega) h4] at h1
      rw [List.size_toArray, ← hl]
      exact Option.some.inj h1
    exact wpAny_getItem_list_neg pl.isList (by omega) (by rw [List.size_toArray] <;> omega) (by omega) (by rw [hj]; simpa using ew) fin
@[simp] def eAugIx (g : D → D → Option R) (E0 Ei E : S → Res R) (σ : S) : Res R := (E0 σ).bind fun r0 σ1 => match r0 with
  | .slot i => (Ei σ1).bind fun ri σ2 => (match view σ2 ri, σ2[i]? with
    | some (.int k), some (some (.l _ es)) => (match L2.atI es k with
      | some x => (E σ2).bind fun r σ3 => (match view σ3 r, σ3[i]? with
        | some y, some (some (.l t es')) => if t = .lck then .bad else (match ixN es'.length k, g x y with
          | some j, some (.d d) => .ok (.d .none) (σ3.set i (some (.l t (es'.set j d))))
          | _, _ => .bad)
        | _, _ => .bad)
      | none => .bad)
    | _, _ => .bad)
  | _ => .bad
@[simp] def sAugIx (g : D → D → Option R) (E0 Ei E : S → Res R) : S → Out := sDrop (eAugIx g E0 Ei E)
theorem ds_augIx {op : Operator} {ti : R2} {g : D → D → Option R} {tpos : Pos} (hop : OpR X (inplaceOp op) ti) (hg : Op2 X.K ti g) (ho : DE X W o E0) (hi : DE X W c Ei) (he : DE X W e E)
    (ha : ∀ ov iv new, augStore c ov iv new = (do holding [new, ov, iv] (setItem ov iv new); release [new, ov, iv] []; pure .next) := by intros; rfl) :
    DS X W (.AugAssign (.Subscript o c tpos) op e pos) (sAugIx g E0 Ei E) := ps_weak (ps_augS ho hi get_list he (fun pins s σ H x y v u Q I rx ry h => augR hop I rx ry h) set_list ha) fun Dd σv H ⟨σ, s, h⟩ => by
  have h := PostS.ofRes (Rel := RRel X.K) (E := eAugIx g E0 Ei E) h
  refine ⟨σ, s, ?_⟩
  unfold eAugIx at h
  cases ea : E0 σ with
  | bad => rw [ea] at h; exact False.elim h
  | exc c σ1 => rw [ea] at h; exact h
  | ok r0 σ1 =>
    rw [ea] at h
    simp only [Res.bind] at h
    intro v0 H1 st rr
    cases r0 with
    | d x => exact False.elim h
    | own ds => exact False.elim h
    | slot i =>
      obtain ⟨e1, _, _⟩ := rr
      simp only at h
      refine ⟨σ1, st.rel, ?_⟩
      cases ec : Ei σ1 with
      | bad => rw [ec] at h; exact False.elim h
      | exc c σ4 => rw [ec] at h; exact Post.exc_later h st
      | ok ri σ2 =>
        rw [ec] at h
        intro vi H2 st2 rr2
        have st12 := st.trans st2
        simp only at h
        split at h
        · rename_i k t es ei e2
          split at h
          · rename_i x ex
            obtain ⟨p, vs, rfl, q1, q2⟩ := slot_at st12.rel e1 e2
            obtain ⟨vx, evx, hx⟩ := q2.atI ex
            refine ⟨p, vs, k, vx, rfl, view_int (rr2.view st12.rel ei), .inl (.inl q1), evx, σ2, st12.rel, ?_⟩
            cases ed : E σ2 with
            | bad => rw [ed] at h; exact False.elim h
            | exc c σ3 => rw [ed] at h; exact Post.exc_later h st12
            | ok r σ3 =>
              rw [ed] at h
              intro v H3 st3 rr3
              have st13 := st12.trans st3
              simp only at h
              split at h
              · rename_i y t' es' ey e3
                split at h
                · exact False.elim h
                · rename_i nt
                  split at h
                  · rename_i j d ej eg
                    obtain ⟨p', vs', ep, q3, q4⟩ := slot_at st13.rel e1 e3
                    cases ep
                    refine hg x y vx v H3 _ _ (Fz.view (Fz.mono (st3.imm st12.rel) x hx)) (rr3.view st13.rel ey) eg fun v' H4 nr => ?_
                    have st' := st13.trans (Step.same st13.rel nr.same)
                    obtain ⟨p4, vs4, ep4, q5, q6⟩ := slot_at st'.rel e1 e3
                    cases ep4
                    refine ⟨p, vs4, k, j, rfl, view_int (rr2.view st12.rel ei), q5, by rw [← q6.length]; exact ej, ?_⟩
                    exact h .non _ (st'.mut e3 nt e1 q5 (q6.set j nr.2)) rfl
                  · exact False.elim h
              · exact False.elim h
          · exact False.elim h
        · exact False.elim h
theorem ds_augIxAdd {tpos : Pos} (ho : DE X W o E0) (hi : DE X W c Ei) (he : DE X W e E)
    (ha : ∀ ov iv new, augStore c ov iv new = (do holding [new, ov, iv] (setItem ov iv new); release [new, ov, iv] []; pure .next) := by intros; rfl) :
    DS X W (.AugAssign (.Subscript o c tpos) .Add e pos) (sAugIx gIAdd E0 Ei E) := ds_augIx ia_add gIAdd_ok ho hi he ha
theorem ds_augIxSub {tpos : Pos} (ho : DE X W o E0) (hi : DE X W c Ei) (he : DE X W e E)
    (ha : ∀ ov iv new, augStore c ov iv new = (do holding [new, ov, iv] (setItem ov iv new); release [new, ov, iv] []; pure .next) := by intros; rfl) :
    DS X W (.AugAssign (.Subscript o c tpos) .Sub e pos) (sAugIx gSub E0 Ei E) := ds_augIx iop_sub gI0_ok ho hi he ha
/-! ### names of the module for data -/
theorem de_glo {x : Str} {v : V} {u : Value} {d : D} (hm : X.mg x = some u) (hr : RelV v u) (hf : ∀ H, Fz X.K H d v) (hg : Gl X x := by rfl) (hd : (x == ("__debug__" : Str)) = false := by decide) : DE X W (.Name x pos) (eC d) :=
  pe_weak (pe_glob (v := v) hg hm hr hd) fun σv H Q ⟨σ, s, q⟩ => q v H (Step.refl s) (hf _)
end
/-- a value of the module is that data, for good -/
def Con (K : PySem.W.Frag) (mg : Str → Option Value) (x : Str) (d : D) : Prop := ∃ v u, mg x = some u ∧ RelV v u ∧ ∀ H, Fz K H d v
theorem de_con {X : Cx} {W : WX} {pos : Pos} {x : Str} {d : D} (h : Con X.K X.mg x d) (hg : Gl X x := by rfl) (hd : (x == ("__debug__" : Str)) = false := by decide) : DE X W (.Name x pos) (eC d) := by
  obtain ⟨v, u, hm, hr, hf⟩ := h
  exact de_glo hm hr hf hg hd
def conA (f : D → Value → Bool) : List D → List Value → Bool
  | [], [] => true
  | d :: ds, v :: vs => f d v && conA f ds vs
  | _, _ => false
def tupB (f : List D → List Value → Bool) (ds : List D) (o : Option Obj) : Bool := match o with
  | some ⟨.type t, _, .seq its _, _⟩ => t == "tuple" && (decide (its.size ≤ sizeLine) && f ds its.toList)
  | _ => false
def conB (K : PySem.W.Frag) : Nat → D → Value → Bool
  | 0, _, _ => false
  | n + 1, d, v => match d, v with
    | .none, .none => true
    | .bool i, .bool j => decide (j = i)
    | .int i, .int j _ => decide (j = i)
    | .str i, .str j _ => decide (j = i)
    | .tuple ds, .ref a => tupB (conA (conB K n)) ds (K.lookup a)
    | _, _ => false
theorem conA_ok {K : PySem.W.Frag} {f : D → Value → Bool} (hf : ∀ d v, f d v = true → ∃ x, RelV x v ∧ ∀ H, Fz K H d x) : ∀ (ds : List D) (vs : List Value), conA f ds vs = true → ∃ xs, Vals xs vs ∧ ∀ H, FzAll K H ds xs
  | [], [], _ => ⟨[], .nil, fun _ => FzAll.nil⟩
  | d :: ds, v :: vs, h => by
    unfold conA at h
    obtain ⟨h1, h2⟩ := Bool.and_eq_true_iff.mp h
    obtain ⟨x, r, q⟩ := hf d v h1
    obtain ⟨xs, rs, qs⟩ := conA_ok hf ds vs h2
    exact ⟨x :: xs, .cons r rs, fun H => FzAll.cons (q H) (qs H)⟩
  | [], _ :: _, h => by cases h
  | _ :: _, [], h => by cases h
theorem tupB_ok {f : List D → List Value → Bool} {ds : List D} {o : Option Obj} (h : tupB f ds o = true) : ∃ (u : Obj) (its : Array Value) (n : Nat), o = some u ∧ u.cls = .type "tuple" ∧ u.data = .seq its n ∧ its.size ≤ sizeLine ∧ f ds its.toList = true := by
  unfold tupB at h
  split at h
  · simp only [Bool.and_eq_true] at h
    obtain ⟨h1, h2, h3⟩ := h
    have e := eq_of_beq h1
    subst e
    exact ⟨_, _, _, rfl, rfl, rfl, of_decide_eq_true h2, h3⟩
  · cases h
theorem conB_ok {K : PySem.W.Frag} : ∀ (n : Nat) (d : D) (v : Value), conB K n d v = true → ∃ x, RelV x v ∧ ∀ H, Fz K H d x
  | 0, _, _, h => by cases h
  | n + 1, d, v, h => by
    unfold conB at h
    split at h
    · exact ⟨.non, rfl, fun _ => rfl⟩
    · cases of_decide_eq_true h; exact ⟨.bl _, rfl, fun _ => rfl⟩
    · cases of_decide_eq_true h; exact ⟨.int _, ⟨_, rfl⟩, fun _ => rfl⟩
    · cases of_decide_eq_true h; exact ⟨.str _, ⟨_, rfl⟩, fun _ => rfl⟩
    · rename_i ds a
      obtain ⟨u, its, k, hl, h1, h2, h3, h4⟩ := tupB_ok h
      obtain ⟨xs, rs, qs⟩ := conA_ok (fun d v => conB_ok n d v) _ _ h4
      exact ⟨.ref a, rfl, fun H => ⟨a, xs, rfl, .inr ⟨u, its, k, hl, h1, h2, h3, rs⟩, qs H⟩⟩
    · cases h
/-! ### more facts for the head -/
inductive XFa where
  | bui (x : Str) (id : String)
  | con (x : Str) (d : D)
  | excC (x : Str)
  | kit (x y : Str) (b : Bool)
def buiO (id : String) : Option (Option Value) → Bool
  | some (some (.builtin j)) => decide (j = id)
  | _ => false
theorem buiO_ok {id : String} {o : Option (Option Value)} (h : buiO id o = true) : o = some (some (.builtin id)) := by
  unfold buiO at h
  split at h
  · cases of_decide_eq_true h; rfl
  · cases h
def conO (K : PySem.W.Frag) (d : D) : Option (Option Value) → Bool
  | some (some v) => conB K 4 d v
  | _ => false
theorem conO_ok {K : PySem.W.Frag} {d : D} {o : Option (Option Value)} (h : conO K d o = true) : ∃ v, o = some (some v) ∧ conB K 4 d v = true := by
  unfold conO at h
  split at h
  · exact ⟨_, rfl, h⟩
  · cases h
def XFa.ok (K : PySem.W.Frag) : XFa → Bool
  | .bui x id => buiO id (PySem.W.nsIn K mainGlobals x)
  | .con x d => conO K d (PySem.W.nsIn K mainGlobals x)
  | .excC x => He.eqO (PySem.W.findIn K (.ref (He.ga K x)) "__getattribute__") (some (some (.builtin "BaseException.__getattribute__"))) && (He.eqO (PySem.W.findIn K (.ref (He.ga K x)) "__getattr__") (some none) && (decide (PySem.W.subIn K (.ref (He.ga K x)) (.type "BaseException") = some true) && (PySem.W.hasDictIn K (He.ga K x) &&
    (He.eqO (PySem.W.findIn K (.ref (He.ga K x)) "__class__") (some (some (.builtin "object.__class__"))) && (decide (PySem.W.specialIn K (.builtin "object.__class__") "__get__" = some (some (.builtin "getset_descriptor.__get__"))) && (decide (PySem.W.takesIn K (.builtin "object.__class__") = some true) && decide (PySem.W.mroIn K (He.ga K x) (.type "object") = some true)))))))
  | .kit x y b => decide (PySem.W.kitOne K (.ref (He.ga K x)) (.ref (He.ga K y)) = some b)
section
variable {K : PySem.W.Frag} {h : Heap} {mg : Str → Option Value}
theorem bui_ok (X : K.In h) (G : h.Ns mainGlobals mg) {x : Str} {id : String} (c : (XFa.bui x id).ok K = true) : mg x = some (.builtin id) := PySem.W.mg_of X G (buiO_ok c)
theorem excC_ok {x : Str} (c : (XFa.excC x).ok K = true) : ExcC K (He.ga K x) := by
  obtain ⟨c1, c⟩ := He.ba c
  obtain ⟨c2, c⟩ := He.ba c
  obtain ⟨c3, c⟩ := He.ba c
  obtain ⟨c4, c⟩ := He.ba c
  obtain ⟨c5, c⟩ := He.ba c
  obtain ⟨c6, c⟩ := He.ba c
  obtain ⟨c7, c8⟩ := He.ba c
  exact ⟨He.eqO_ok c1, He.eqO_ok c2, of_decide_eq_true c3, c4, He.eqO_ok c5, of_decide_eq_true c6, of_decide_eq_true c7, of_decide_eq_true c8⟩
theorem kit_ok {x y : Str} {b : Bool} (c : (XFa.kit x y b).ok K = true) : PySem.W.kitOne K (.ref (He.ga K x)) (.ref (He.ga K y)) = some b := of_decide_eq_true c
theorem con_ok (X : K.In h) (G : h.Ns mainGlobals mg) {x : Str} {d : D} (c : (XFa.con x d).ok K = true) : Con K mg x d := by
  obtain ⟨v, e, q⟩ := conO_ok c
  obtain ⟨y, r, q⟩ := conB_ok _ _ _ q
  exact ⟨y, v, PySem.W.mg_of X G e, r, q⟩
end
abbrev AlX : Type := Bool × AlL
def obsX (n : Nat) (xf : List XFa) (fa : List He.Fa) (fn : List He.DefD) (g : Addr → Option Obj) : AlX := (xf.all fun x => x.ok (frT g n), obsLG n fa fn g)
def hookX (n : Nat) (xf : List XFa) (fa : List He.Fa) (fn : List He.DefD) : PySem.W.Hook where
  α := AlX
  obs := fun s => obsX n xf fa fn s.heap.get?
  val := fun _ => (true, (true, He.valD fn))
  says := fun _ h => ∃ K : PySem.W.Frag, K.In h ∧ He.SaysD fa fn K ∧ NoL K ∧ TabsAt K h ∧ (∀ d ∈ fn, codeT K d = true) ∧ ∀ x ∈ xf, x.ok K = true
  of := fun _ s e => by
    have e0 : (xf.all fun x => x.ok (frT s.heap.get? n)) = true := congrArg (fun z : AlX => z.1) e
    have e1 : (noLst (frT s.heap.get? n) && (tabsB s.heap.get? (frT s.heap.get? n) && fn.all fun d => codeT (frT s.heap.get? n) d)) = true := congrArg (fun z : AlX => z.2.1) e
    simp only [Bool.and_eq_true] at e1
    exact ⟨frT s.heap.get? n, fun a o q => frT_at q, congrArg (fun z : AlX => z.2.2) e, noLst_ok e1.1, tabsB_ok e1.2.1, List.all_eq_true.mp e1.2.2, List.all_eq_true.mp e0⟩
  keeps := fun _ h h' ⟨K, hK, c, nl, tb, ct, xf⟩ k => ⟨K, PySem.W.Frag.In.keeps hK k, c, nl, fun p hp => ⟨k _ _ (tb p hp).1, (tb p hp).2.1, (tb p hp).2.2.keeps k⟩, ct, xf⟩
theorem obsX_eq {n : Nat} {xf : List XFa} {fa : List He.Fa} {fn : List He.DefD} {g : Addr → Option Obj} {s : Shared} (h : ∀ a, g a = s.heap.get? a) : obsX n xf fa fn g = (hookX n xf fa fn).obs s := by
  have e : g = s.heap.get? := funext h
  rw [e]; rfl
/-! ### a, b, c, d = .., names of their own: lists stay lists -/
section
variable {X : Cx} {W : WX} {e : Expr} {es tgs : List Expr} {pos : Pos}
def gNs (is : List Nat) : TGs := fun xs σ H Q => is.length = xs.length ∧ Q (setVs is xs σ) H
abbrev PNs (X : Cx) (tgs : List Expr) (is : List Nat) : Prop := PGs X tgs (gNs is)
theorem pns_nil : PNs X [] [] := pgs_weak pgs_nil fun xs σ H Q h => by
  obtain ⟨h1, h2⟩ := h
  cases xs with
  | nil => exact ⟨rfl, h2⟩
  | cons => cases h1
theorem pns_cons {i : Nat} {is : List Nat} {x : Str} {p : Pos} (h : PNs X es is) (hN : X.N.Nodup) (hi : X.N[i]? = some x := by rfl) (hx : Loc X.env.scope x := by first | exact Or.inl rfl | exact Or.inr rfl) (hf : X.fn x = true ∨ X.env.scope.names.lookup x = some .local := by first | exact .inl rfl | exact .inr rfl)
    (hs : (assignEach (.Name x p :: es) X.env).map (·.2) = assign (.Name x p) X.env :: (assignEach es X.env).map (·.2) := by rfl) : PNs X (.Name x p :: es) (i :: is) := pgs_weak (pgs_cons (pg_name hN hi hx hf) h hs) fun xs σ H Q h => by
  obtain ⟨h1, h2⟩ := h
  cases xs with
  | nil => cases h1
  | cons v vs => exact ⟨v, vs, rfl, Nat.succ.inj h1, h2⟩
theorem ps_parN {is : List Nat} {ta : TA} {kt k2 : Nat} {pt pt2 : Pos} (hc : X.calm = true) (ha : PA X es ta) (hp : PNs X tgs is) (hz : is.length ≤ sizeLine) (hlen : (assignEach tgs X.env).length = is.length) (hst : (assignEach tgs X.env).findIdx? (·.1) = none)
    (hw : swappedStores [.Tuple tgs kt pt] (.Tuple es k2 pt2) X.env = pure none) (h1 : (assignEach [.Tuple tgs kt pt] X.env).map (·.2) = [assign (.Tuple tgs kt pt) X.env])
    (hs : swapsWithSole [.Tuple tgs kt pt] (.Tuple es k2 pt2) pos.line X.env = pure false) :
    PS X (.Assign [.Tuple tgs kt pt] (.Tuple es k2 pt2) pos) fun D σ H => ta σ H fun vs H1 => is.length = vs.length ∧ D.nx (setVs is vs σ) H1 := by
  refine ⟨fun pins s σ H D I h => ?_⟩
  refine wpAny_Assign_stores (Tuple_ (thn (ha.run _ pins s σ H _ I h) fun us s1 ⟨vs, H1, I1, r1, hl, q1⟩ => ?_)) hs hw
  have hul : us.length = is.length := by rw [← r1.length, hl]
  refine wpAny_newObj_type ?_ (by show us.length ≤ sizeLine; omega)
  have I2 : Inv X pins σ H1 { s1 with heap := s1.heap.push { cls := .type "tuple", data := .seq us.toArray } } := I1.kept (t' := s1.toks) fun b o e => Heap.get?_push_of_some _ e
  rw [h1]
  refine thn (assign_Tuple_tuple (I.ok.hd hc) (IsTup.new s1.heap us.toArray) (by rw [hlen, List.size_toArray, hul]) hst fun h' hx' => ?_) fun _ s2 q => q
  have I3 := I2.kept (h' := h') (t' := s1.toks) fun b o e => hx' b o (Nat.ne_of_lt (Heap.lt_size e)) e
  exact hp.run pins _ σ H1 vs _ _ I3 (by simpa using r1) ⟨hl, q1⟩
theorem ds_parN {is : List Nat} {AR : S → Res (List R)} {kt k2 : Nat} {pt pt2 : Pos} (hc : X.calm = true) (ha : DR X W es AR) (hp : PNs X tgs is) (hz : is.length ≤ sizeLine := by decide) (hlen : (assignEach tgs X.env).length = is.length := by rfl) (hst : (assignEach tgs X.env).findIdx? (·.1) = none := by rfl)
    (hw : swappedStores [.Tuple tgs kt pt] (.Tuple es k2 pt2) X.env = pure none := by rfl) (h1 : (assignEach [.Tuple tgs kt pt] X.env).map (·.2) = [assign (.Tuple tgs kt pt) X.env] := by rfl)
    (hs : swapsWithSole [.Tuple tgs kt pt] (.Tuple es k2 pt2) pos.line X.env = pure false := by rfl) : DS X W (.Assign [.Tuple tgs kt pt] (.Tuple es k2 pt2) pos) (sPar is AR) := ps_weak (ps_parN hc ha hp hz hlen hst hw h1 hs) fun Dd σv H h => par_post h
end
end FL

set_option Elab.async false
set_option linter.all false
set_option maxRecDepth 100000
set_option maxHeartbeats 4000000
/-! FL: more for plain laws: ranges, equal data, same -/
namespace FL
open PySem
theorem rOk_nat (n : Nat) (h : n ≤ 100000000) : rOk (n : Int) := by
  unfold rOk
  constructor <;> omega
theorem rOk_int (n : Int) (h0 : -100000000 ≤ n) (h : n ≤ 100000000) : rOk n := by
  unfold rOk
  constructor <;> omega
theorem iRange1_eq {A : S → Res (List D)} {σ σ1 : S} {j : Int} (e : A σ = .ok [.int j] σ1) (h : rOk j) : iRange1 A σ = .ok (rngL 0 j.toNat) σ1 := by
  unfold iRange1
  rw [e]
  simp only [Res.bind]
  rw [if_pos h]
theorem iRange2_eq {A : S → Res (List D)} {σ σ1 : S} {i j : Int} (e : A σ = .ok [.int i, .int j] σ1) (hi : rOk i) (hj : rOk j) : iRange2 A σ = .ok (rngL i (j - i).toNat) σ1 := by
  unfold iRange2
  rw [e]
  simp only [Res.bind]
  rw [if_pos ⟨hi, hj⟩]
theorem sFor_eq {It : S → Res (List D)} {g : G} {B : S → Out} {σ σ1 : S} {ds : List D} (e : It σ = .ok ds σ1) : sFor It g B σ = forL g B ds σ1 := by
  unfold sFor
  rw [e]
theorem sIf_f {T : S → Res Bool} {A B : S → Out} {σ σ1 : S} (e : T σ = .ok false σ1) : sIf T A B σ = B σ1 := by
  unfold sIf
  rw [e]
  rfl
theorem sIf_t {T : S → Res Bool} {A B : S → Out} {σ σ1 : S} (e : T σ = .ok true σ1) : sIf T A B σ = A σ1 := by
  unfold sIf
  rw [e]
  rfl
theorem rngL_len (lo : Int) (n : Nat) : (rngL lo n).length = n := by simp [rngL]
end FL
namespace FL
open PySem
theorem gx_all {vs : List Nat} {g : G} {E : S → Res R} {σ : S} (p : D → Bool) : ∀ (ds : List D), (∀ d ∈ ds, ∃ σ1 σ2, g d σ = some σ1 ∧ tTru isBool E σ1 = .ok (p d) σ2 ∧ wipeS σ2 vs = σ) → gxL vs g tT E false ds σ = .ok (ds.all p) σ
  | [], _ => rfl
  | d :: ds, h => by
    obtain ⟨σ1, σ2, e1, e2, e3⟩ := h d List.mem_cons_self
    have ih := gx_all p ds fun x hx => h x (List.mem_cons_of_mem _ hx)
    unfold gxL
    rw [e1]
    simp only [tT, e2, e3, ih, List.all_cons]
    cases p d <;> simp
theorem gx_any {vs : List Nat} {g : G} {E : S → Res R} {σ : S} (p : D → Bool) : ∀ (ds : List D), (∀ d ∈ ds, ∃ σ1 σ2, g d σ = some σ1 ∧ tTru isBool E σ1 = .ok (p d) σ2 ∧ wipeS σ2 vs = σ) → gxL vs g tT E true ds σ = .ok (ds.any p) σ
  | [], _ => rfl
  | d :: ds, h => by
    obtain ⟨σ1, σ2, e1, e2, e3⟩ := h d List.mem_cons_self
    have ih := gx_any p ds fun x hx => h x (List.mem_cons_of_mem _ hx)
    unfold gxL
    rw [e1]
    simp only [tT, e2, e3, ih, List.any_cons]
    cases p d <;> simp
end FL
namespace FL.Com
open PySem FL
theorem eqv_self : ∀ (n : Nat) (d : D), Sm n d → PyData.eqv d d = true
  | 0, _, h => by cases h
  | n + 1, d, h => by
    have all : ∀ ds : List D, (∀ d ∈ ds, Sm n d) → PyData.eqvAll ds ds = true := fun ds hs => by
      induction ds with
      | nil => rfl
      | cons d ds ih =>
        show (PyData.eqv d d && PyData.eqvAll ds ds) = true
        rw [eqv_self n d (hs d List.mem_cons_self), ih fun x hx => hs x (List.mem_cons_of_mem _ hx)]
        rfl
    cases h with
    | none => rfl
    | bool _ b => cases b <;> rfl
    | int _ i => exact beq_self_eq_true i
    | str _ z hz => exact eqv_str z
    | list _ ds hl hs => exact all ds hs
    | tuple _ ds hl hs => exact all ds hs
theorem lay_sm : ∀ (n : Nat) (d : D), Sm n d → PyData.canLay0 d = true ∧ d.depth ≤ n
  | 0, _, h => by cases h
  | n + 1, d, h => by
    have all : ∀ ds : List D, (∀ d ∈ ds, Sm n d) → PyData.canLayAll0 ds = true ∧ PyData.depthAll ds ≤ n := fun ds hs => by
      induction ds with
      | nil => exact ⟨rfl, Nat.zero_le _⟩
      | cons d ds ih =>
        obtain ⟨a1, a2⟩ := lay_sm n d (hs d List.mem_cons_self)
        obtain ⟨b1, b2⟩ := ih fun x hx => hs x (List.mem_cons_of_mem _ hx)
        refine ⟨?_, ?_⟩
        · show (PyData.canLay0 d && PyData.canLayAll0 ds) = true
          rw [a1, b1]; rfl
        · show max d.depth (PyData.depthAll ds) ≤ n
          omega
    cases h with
    | none => exact ⟨rfl, Nat.zero_le _⟩
    | bool _ b => exact ⟨rfl, Nat.zero_le _⟩
    | int _ i => exact ⟨rfl, Nat.zero_le _⟩
    | str _ z hz => exact ⟨hz, Nat.zero_le _⟩
    | list _ ds hl hs =>
      obtain ⟨b1, b2⟩ := all ds hs
      exact ⟨b1, Nat.succ_le_succ b2⟩
    | tuple _ ds hl hs =>
      obtain ⟨b1, b2⟩ := all ds hs
      exact ⟨b1, Nat.succ_le_succ b2⟩
theorem shaped_sm {n : Nat} {d : D} (h : Sm n d) (hn : n ≤ 64) : SeqAt.shaped d = true := by
  obtain ⟨a, b⟩ := lay_sm n d h
  unfold SeqAt.shaped
  rw [a, decide_eq_true (show d.depth ≤ 64 by omega)]; rfl
theorem gEq_self {n : Nat} {d : D} (h : Sm n d) (hn : n ≤ 64) : gEq d d = some (.d (.bool true)) := by
  unfold gEq
  rw [if_pos ⟨shaped_sm h hn, shaped_sm h hn⟩, eqv_self n d h]
theorem gNe_self {n : Nat} {d : D} (h : Sm n d) (hn : n ≤ 64) : gNe d d = some (.d (.bool false)) := by
  unfold gNe
  rw [if_pos ⟨shaped_sm h hn, shaped_sm h hn⟩, eqv_self n d h]; rfl
theorem Sm.up {n : Nat} : ∀ {d : D} {m : Nat}, Sm n d → n ≤ m → Sm m d := by
  induction n with
  | zero => intro d m h; cases h
  | succ n ih =>
    intro d m h hm
    obtain ⟨k, rfl⟩ : ∃ k, m = k + 1 := ⟨m - 1, by omega⟩
    cases h with
    | none => exact .none _
    | bool _ b => exact .bool _ b
    | int _ i => exact .int _ i
    | str _ z hz => exact .str _ z hz
    | list _ ds hl hs => exact .list _ ds hl fun d hd => ih (hs d hd) (by omega)
    | tuple _ ds hl hs => exact .tuple _ ds hl fun d hd => ih (hs d hd) (by omega)
theorem sm_iL (ns : List Int) (n : Nat) : ∀ d ∈ iL ns, Sm (n + 1) d := fun d hd => by
  obtain ⟨i, _, rfl⟩ := List.mem_map.mp hd
  exact .int _ i
theorem sm_tup (ns : List Int) (hl : ns.length ≤ 16777216) (n : Nat) : Sm (n + 2) (.tuple (iL ns)) := .tuple _ _ (by simpa using hl) (sm_iL ns n)
theorem same_loop (m : Meaning) (ds : List D) (c : D) (hg : ∀ i : Int, gIx c (.int i) = (L2.atI ds i).map R.d) (hs : ∀ d ∈ ds, m [some (.d d), some (.d d)] = .ok (.d (.bool true)) [none, none]) :
    ∃ x, forL (gN 2) (l__law_same_1 m) (rngL 0 ds.length) [some (.d c), some (.d c), none] = .nx [some (.d c), some (.d c), x] := by
  obtain ⟨σ', e, x, _, hx⟩ := for_run (g := gN 2) (B := l__law_same_1 m) (ds := rngL 0 ds.length) (σ := [some (.d c), some (.d c), none]) (fun _ σ => ∃ x, Fr x ∧ σ = [some (.d c), some (.d c), x]) ⟨none, .none, rfl⟩ fun k d σ hk ⟨x, fx, hx⟩ => by
    subst hx
    obtain ⟨i, hi, rfl⟩ := rng_mem (List.mem_of_getElem? hk)
    have ha : L2.atI ds ((0 : Int) + (i : Int)) = some ds[i] := by
      rw [Int.zero_add]
      exact atI_n ds i hi
    have ih := hs _ (List.getElem_mem hi)
    have gx := hg (0 + i)
    rw [ha] at gx
    simp only [Option.map_some] at gx
    generalize (0 : Int) + (i : Int) = k at gx
    refine ⟨[some (.d c), some (.d c), some (.d (.int k))], by rcases fx with rfl | ⟨x, rfl⟩ <;> simp, [some (.d c), some (.d c), some (.d (.int k))], .inl ?_, _, Fr.d, rfl⟩
    simp [-gIx, l__law_same_1, gx, ih]
  exact ⟨x, by rw [e, hx]⟩
theorem same_tuple (m : Meaning) (ds : List D) (hl : ds.length ≤ 16777216) (hs : ∀ d ∈ ds, m [some (.d d), some (.d d)] = .ok (.d (.bool true)) [none, none]) : funSem0 3 (b__law_same m) [some (.d (.tuple ds)), some (.d (.tuple ds))] = .ok (.d (.bool true)) [none, none] := by
  obtain ⟨x, L⟩ := same_loop m ds (.tuple ds) (fun i => rfl) hs
  have hr : rOk (ds.length : Int) := ⟨by omega, by omega⟩
  simp [b__law_same, L, hr]
theorem same_list (m : Meaning) (ds : List D) (hl : ds.length ≤ 16777216) (hs : ∀ d ∈ ds, m [some (.d d), some (.d d)] = .ok (.d (.bool true)) [none, none]) : funSem0 3 (b__law_same m) [some (.d (.list ds)), some (.d (.list ds))] = .ok (.d (.bool true)) [none, none] := by
  obtain ⟨x, L⟩ := same_loop m ds (.list ds) (fun i => rfl) hs
  have hr : rOk (ds.length : Int) := ⟨by omega, by omega⟩
  simp [b__law_same, L, hr]
theorem same_str (m : Meaning) (z : Str) (hz : PyData.strOk z = true) : funSem0 3 (b__law_same m) [some (.d (.str z)), some (.d (.str z))] = .ok (.d (.bool true)) [none, none] := by
  have := gEq_self (Sm.str 0 z hz) (by decide)
  simp [b__law_same, this]
theorem same_int (m : Meaning) (i : Int) : funSem0 3 (b__law_same m) [some (.d (.int i)), some (.d (.int i))] = .ok (.d (.bool true)) [none, none] := by
  simp [b__law_same]
theorem same_bool (m : Meaning) (b : Bool) : funSem0 3 (b__law_same m) [some (.d (.bool b)), some (.d (.bool b))] = .ok (.d (.bool true)) [none, none] := by
  simp [b__law_same]
theorem same_none (m : Meaning) : funSem0 3 (b__law_same m) [some (.d .none), some (.d .none)] = .ok (.d (.bool true)) [none, none] := by
  simp [b__law_same]
theorem same_self (n : Nat) : ∀ (d : D), Sm n d → m__law_same n [some (.d d), some (.d d)] = .ok (.d (.bool true)) [none, none] := by
  induction n with
  | zero => intro d h; cases h
  | succ n ih =>
    intro d h
    show funSem0 3 (b__law_same (m__law_same n)) _ = _
    cases h with
    | none => exact same_none _
    | bool _ b => exact same_bool _ b
    | int _ i => exact same_int _ i
    | str _ z hz => exact same_str _ z hz
    | list _ ds hl hs => exact same_list _ ds hl fun d hd => ih d (hs d hd)
    | tuple _ ds hl hs => exact same_tuple _ ds hl fun d hd => ih d (hs d hd)
theorem lay_iL : ∀ ns : List Int, PyData.canLayAll0 (iL ns) = true ∧ PyData.depthAll (iL ns) = 0
  | [] => ⟨rfl, rfl⟩
  | n :: ns => by
    obtain ⟨a, b⟩ := lay_iL ns
    refine ⟨?_, ?_⟩
    · show (true && PyData.canLayAll0 (iL ns)) = true
      rw [a]; rfl
    · show max 0 (PyData.depthAll (iL ns)) = 0
      rw [b]; rfl
theorem shaped_tup (ns : List Int) : SeqAt.shaped (.tuple (iL ns)) = true := by
  obtain ⟨a, b⟩ := lay_iL ns
  show (PyData.canLayAll0 (iL ns) && decide (PyData.depthAll (iL ns) + 1 ≤ 64)) = true
  rw [a, b]; rfl
theorem gNe_nilT (ns : List Int) : gNe (.tuple (iL ns)) (.tuple []) = some (.d (.bool (!ns.isEmpty))) := by
  unfold gNe
  rw [if_pos ⟨shaped_tup ns, rfl⟩]
  cases ns <;> rfl
theorem memD_iL (a : Int) : ∀ ns : List Int, memD (.int a) (iL ns) = decide (a ∈ ns)
  | [] => rfl
  | n :: ns => by
    show ((n == a) || memD (.int a) (iL ns)) = _
    rw [memD_iL a ns]
    by_cases h : n = a
    · subst h; simp
    · have : ¬ a = n := fun z => h z.symm
      simp [h, this]
theorem gIn_iL (a : Int) (ns : List Int) : gIn (.int a) (.tuple (iL ns)) = some (.d (.bool (decide (a ∈ ns)))) := by
  show (if SeqAt.shaped (.int a) = true ∧ SeqAt.shaped (.tuple (iL ns)) = true then some (R.d (.bool (memD (.int a) (iL ns)))) else none) = _
  rw [if_pos ⟨rfl, shaped_tup ns⟩, memD_iL]
end FL.Com

set_option Elab.async false
set_option linter.all false
set_option maxRecDepth 100000
set_option maxHeartbeats 2000000
/-! FL: exceptions of the program's own classes: raise, try .. except X as e, isinstance(e, X), defs that may raise. A caught exception is data (xD c) that never changes. -/
namespace FL
open PySem PySem.Spec PyProof.Rows L2

/-! ### an exception is noted in the abstract heap -/
theorem inv_addX {X : Cx} {pins : List (Addr × Obj)} {σ : L2.St} {H : Hp} {s : Shared} {a C : Addr} {oe : Obj} (I : Inv X pins σ H s) (e : s.heap.get? a = some oe) (z : Zc (.ref C) none oe) (hf : ∃ vs, oe.data = .fields vs) (na : H a = none)
    (n0 : X.s_0.heap.get? a = none) (np : ∀ p ∈ X.pn ++ pins, p.1 ≠ a) (nL : a ≠ X.env.locals) (nc : ∀ x c, X.env.cells.lookup x = some c → c ≠ a) : Inv X pins σ (upd H a (xcO a C)) s := by
  refine ⟨I.ok, I.os, I.bare, ⟨I.base.keep, I.base.slot, fun b o eb n x => ?_, I.base.there, fun b xs eb => ?_, fun b o u eb => ?_, fun b ps eb => ?_⟩, I.loc, I.cell, ?_, fun x c ec => ?_, fun p hp => ?_, fun b o eb => ?_, I.len⟩
  · rw [upd_ne (fun q => by rw [q, n0] at eb; cases eb)]
    exact I.base.free b o eb n x
  · have q := I.base.tups b xs eb
    rw [upd_ne (fun z => by rw [z, na] at q; cases q)]
    exact q
  · have q := I.base.frzs b o u eb
    rw [upd_ne (fun z => by rw [z, na] at q; cases q)]
    exact q
  · obtain ⟨more, q⟩ := I.base.tbls b ps eb
    exact ⟨more, by rw [upd_ne (fun z => by rw [z, na] at q; cases q)]; exact q⟩
  · rw [upd_ne (Ne.symm nL)]
    exact I.free
  · rw [upd_ne (nc x c ec)]
    exact I.freeC x c ec
  · obtain ⟨e1, e2, e3⟩ := I.pin p hp
    exact ⟨e1, by rw [upd_ne (np p hp)]; exact e2, e3⟩
  · by_cases hb : b = a
    · subst hb
      rw [upd_same] at eb
      cases eb
      exact ⟨⟨oe, e, z, hf⟩, ⟨oe, e⟩, fun h1 h2 ⟨oe', e', z', f'⟩ k => ⟨oe', k _ e', z', f'⟩⟩
    · rw [upd_ne hb] at eb
      exact (I.hok b o eb).stay (fun _ _ _ q => q) (fun c q => by rw [upd_ne (ne_of_none q na)]; exact q) fun c xs q => by rw [upd_ne (ne_of_none q na)]; exact q
theorem inv_suite0 {X : Cx} {pins : List (Addr × Obj)} {σ : L2.St} {H : Hp} {s : Shared} (I : Inv X pins σ H s) (a : Addr) : Inv (X.suite a (X.pn ++ pins)) [] σ H s :=
  ⟨I.ok.suite _ _, I.os, I.bare, I.base, I.loc, I.cell, I.free, I.freeC, fun p hp => I.pin p (by simpa using hp), I.hok, I.len⟩
theorem inv_unsuite0 {X : Cx} {pins pn' : List (Addr × Obj)} {σ : L2.St} {H : Hp} {s : Shared} {a : Addr} (I : Inv (X.suite a (X.pn ++ pins)) pn' σ H s) (ok : X.Ok) : Inv X pins σ H s :=
  ⟨ok, I.os, I.bare, I.base, I.loc, I.cell, I.free, I.freeC, fun p hp => I.pin p (List.mem_append_left _ hp), I.hok, I.len⟩

/-! ### try -/
/-- what the clause 'except x as n' wishes of an exception of the body: slot i is n's -/
def wX (K : PySem.W.Frag) (c : Value) (i : Nat) (ts : TS) (Wout : WX) (D : Ends) : WX := fun cls d σ H =>
  ∃ C b, cls = .ref C ∧ d = none ∧ PySem.W.exmOne K cls c = some b ∧ (b = true → ∀ a, H a = none → ts { nx := fun σ' H' => D.nx (σ'.set i none) H', rt := D.rt, bk := fun σ' H' => D.bk (σ'.set i none) H', ct := fun σ' H' => D.ct (σ'.set i none) H' } (σ.set i (some (.ref a))) (upd H a (xcO a C))) ∧
    (b = false → Wout cls d σ H)
section
variable {X : Cx} {x n : Str} {c : Value} {i : Nat} {body suite : List Stmt} {b₀ : Stmt} {np pos pos' : Pos} {tb : WX → TS} {ts : TS} {Wout : WX}
theorem ps_try_x (hs : X.stack = X.env :: X.outer) (hf : X.env.frame = some X.env.locals) (hex : X.ex = []) (hN : X.N.Nodup) (hi : X.N[i]? = some n) (hln : X.env.kindOf n = some .local) (hc : Names X x c) (tk : Takes X Wout)
    (hb : ∀ (W : WX) (pn : List (Addr × Obj)) (xe : Value → Shared → Prop), Takes (X.tr pn xe) W → PassesOwn (model X.prog X.w) X.A X.env xe → PSs (X.tr pn xe) body (tb W))
    (hsu : ∀ (a : Addr) (pn : List (Addr × Obj)), PSs (X.suite a pn) (b₀ :: suite) ts) :
    PS X (.Try body [.ExceptHandler (some (.Name x np)) (some n) (b₀ :: suite) pos'] [] [] pos) (fun D σ H => tb (wX X.K c i ts Wout D) D σ H) := by
  refine ⟨fun pins s σ H D I h => ?_⟩
  have ok := I.ok
  have hfr : X.A.frames = some (X.env :: X.outer) := by rw [ok.frames, hs]
  have hloc : Loc X.env.scope n := .inl hln
  refine wpAny_Try_except ?_
  refine wpAny_mono ((hb (wX X.K c i ts Wout D) (X.pn ++ pins) (fun e s₁ => wpAny (model X.prog X.w) X.A (noteFrame e X.env) (fun _ s₂ => wpAny (model X.prog X.w) X.A (setFlight e none) (fun _ s₃ =>
    wpAny (model X.prog X.w) X.A (handleBy e X.env [.ExceptHandler (some (.Name x np)) (some n) (b₀ :: suite) pos']) (SP X pins D) X.xe s₃) X.xe s₂) X.xe s₁) (fun u s' xx => ?_) PassesOwn.looking).run [] s σ H D (I.toTry _) h) (fun f s1 hsp => ?_) (fun e s1 he => he)
  · -- the catch
    obtain ⟨a, B, sI, pins', σ', H', cls, d, rfl, J', nb, up, sky, na, os, ag, C, b, ecl, ed, hb1, hyes, hno⟩ := xx
    subst ed
    have J : Inv X pins σ' H' sI := J'.ofTry ok
    have sky' : Sky B (X.env :: X.outer) a (Zc cls none) X.env.locals s'.heap := by rw [← hs]; exact sky
    show wpAny (model X.prog X.w) X.A (noteFrame (.ref a) X.env) _ _ _
    refine Sky.land Zc.steady hfr hf sky' fun h3 fl3 up3 => ?_
    have J3 : Inv X pins σ' H' { s' with heap := h3 } := J.landed nb fl3.1 (up.trans up3) os ag
    obtain ⟨oe3, vs3, he3, hz3, hd3⟩ := fl3.there
    have notFr : ∀ {h : Heap} {o : Obj} {vs : Array Value}, h.FunFrames B (X.env :: X.outer) → h.get? a = some o → o.data = .fields vs → a ∉ frs (X.env :: X.outer) := fun {h o vs} ff e dd hm => by
      obtain ⟨_, o', e', hnf⟩ := ff.mem hm
      rw [e] at e'; cases e'
      exact hnf _ dd
    have nfr := notFr fl3.2.2.1 he3 hd3
    have nL : a ≠ X.env.locals := fun z => nfr (List.mem_filterMap.mpr ⟨X.env, List.mem_cons_self, by rw [hf, z]⟩)
    have nF : a ∉ X.fs := fun hm => by
      obtain ⟨e, he, q⟩ := List.mem_filterMap.mp hm
      exact nfr (List.mem_filterMap.mpr ⟨e, List.mem_cons_of_mem _ he, q⟩)
    have hBa : B.get? a = none := fl3.2.1
    have hsI : sI.heap.get? a = none := by
      cases q : sI.heap.get? a with
      | none => rfl
      | some o =>
        have := nb a o q (by rw [hs]; exact nfr)
        rw [hBa] at this; cases this
    have n0 : X.s_0.heap.get? a = none := by
      cases q : X.s_0.heap.get? a with
      | none => rfl
      | some o =>
        obtain ⟨o', e'⟩ := J.base.there a o q (by rw [hex]; simp)
        rw [hsI] at e'; cases e'
    have hnp : ∀ p ∈ X.pn ++ pins, p.1 ≠ a := fun p hp z => by
      have := (J.pin p hp).1
      rw [z, hsI] at this; cases this
    have hnc : ∀ x c, X.env.cells.lookup x = some c → c ≠ a := fun y c ec z => by
      obtain ⟨v, hv⟩ := J.cell y c ec
      subst z
      obtain ⟨o, eo, _⟩ := hv
      rw [hsI] at eo; cases eo
    have S3 := J3.suite he3 hd3 na nL nF
    refine wpAny_handleBy_cons (codeAny_handlers_test ?_) (by intro q; cases q)
    have LT : PySem.W.Looks (model X.prog X.w) h3 (typeOf (.ref a)) cls := fun A Q E s k q => wpAny_typeOf_ref (k _ _ he3) (by rw [hz3.1]; exact q)
    have LM := PySem.W.exm_one (M := model X.prog X.w) (J3.kIn) LT hb1
    have test : ∀ {Q : Value → Shared → Prop} {E : Value → Shared → Prop}, Q c { s' with heap := h3 } → wpAny (model X.prog X.w) (X.A.mark (some (.ref a))) (eval (.Name x np) X.env) Q E { s' with heap := h3 } := fun {Q E} q => by
      obtain ⟨hg, hdbg, hm | ⟨hm, hv, hnn⟩⟩ := hc
      · exact ld_glob (X := X.suite a ((a, oe3) :: (X.pn ++ pins))) S3 hg hm q hdbg
      · exact ld_blt (X := X.suite a ((a, oe3) :: (X.pn ++ pins))) S3 hg hm hv q hnn hdbg
    refine test (LM.here ?_)
    cases b with
    | true =>
      refine codeAny_handlers_suite_as ?_
      refine HandSPX.lands_againZ fl3 fun h4 fl4 up4 => ?_
      have J4 : Inv X pins σ' H' { s' with heap := h4 } := J.landed nb fl4.1 ((up.trans up3).trans up4) os ag
      obtain ⟨oe4, vs4, he4, hz4, hd4⟩ := fl4.there
      have S4 := J4.suite he4 hd4 na nL nF
      refine store_ok (X := X.suite a ((a, oe4) :: (X.pn ++ pins))) (v := .ref a) S4 hN hi hloc rfl (fun s5 S5 => ?_) (.inr hln)
      have he5 : s5.heap.get? a = some oe4 := (S5.pin (a, oe4) (List.mem_append.mpr (.inl List.mem_cons_self))).1
      subst ecl
      have J5 := inv_addX (S5.unsuite ok) he5 hz4 ⟨_, hd4⟩ na n0 hnp nL hnc
      have T5 := inv_suite0 J5 a
      refine wpAny_mono ((hsu a (X.pn ++ pins)).run [] s5 _ _ _ T5 (hyes rfl a na)) (fun f s6 hsp => ?_) (fun _ _ z => False.elim z)
      have end_ : ∀ {σ6 : L2.St} {H6 : Hp} {Q : Shared → Prop}, Inv (X.suite a (X.pn ++ pins)) [] σ6 H6 s6 → (∀ s7, Inv X pins (σ6.set i none) H6 s7 → Q s7) →
          wpAny (model X.prog X.w) X.A (do bindName X.env n .none; unbindBehindTheSuite X.env n pos') (fun _ s7 => Q s7) X.xe s6 := fun {σ6 H6 Q} S6 hq => gone_ok (inv_unsuite0 S6 ok) hN hi hln hq
      cases f with
      | next =>
        obtain ⟨σ6, H6, S6, q6⟩ := hsp
        exact end_ S6 fun s7 J7 => ⟨_, _, J7, q6⟩
      | brk =>
        obtain ⟨σ6, H6, S6, q6⟩ := hsp
        exact end_ S6 fun s7 J7 => ⟨_, _, J7, q6⟩
      | cont =>
        obtain ⟨σ6, H6, S6, q6⟩ := hsp
        exact end_ S6 fun s7 J7 => ⟨_, _, J7, q6⟩
      | ret u =>
        obtain ⟨v6, σ6, H6, S6, r6, q6⟩ := hsp
        exact end_ S6 fun s7 J7 => ⟨_, _, _, J7, r6, q6⟩
    | false =>
      show wpAny _ X.A (handleBy (.ref a) X.env []) _ _ _
      refine wpAny_handleBy_nil ?_
      obtain ⟨k1, k2, k3, oe, vs, T, oT, ts', he, hz, hd, h1, hr⟩ := id fl3
      unfold PySem.passOn
      refine wpAny_bind (wpAny_field he hd h1 ?_)
      rw [if_neg (show ¬ ((Value.ref T == Value.none) = true) from by simp)]
      have fin : wpAny (model X.prog X.w) X.A (setFlight (.ref a) X.env.frame) (fun _ s4 => wpAny (model X.prog X.w) X.A (throw (.ref a) : Sem Flow) (SP X pins D) X.xe s4) X.xe { s' with heap := h3 } := by
        rw [hf]
        refine HandSPX.setFlight_upZ fl3 fun h4 hh4 up4 => wpAny_throw (tk _ _ ?_)
        exact ⟨a, B, sI, pins, σ', H', cls, none, rfl, J, nb, (up.trans up3).trans up4, .inr (.inr (by rw [hs]; exact hh4)), na, os, ag, hno rfl⟩
      first
        | exact wpAny_bind (wpAny_pure (wpAny_bind fin))
        | exact wpAny_bind fin
  · cases f with
    | next =>
      obtain ⟨σ', H', J', q⟩ := hsp
      exact wpAny_execs_nil ⟨σ', H', J'.ofTry ok, q⟩
    | brk =>
      obtain ⟨σ', H', J', q⟩ := hsp
      exact ⟨σ', H', J'.ofTry ok, q⟩
    | cont =>
      obtain ⟨σ', H', J', q⟩ := hsp
      exact ⟨σ', H', J'.ofTry ok, q⟩
    | ret u =>
      obtain ⟨v, σ', H', J', r, q⟩ := hsp
      exact ⟨v, σ', H', J'.ofTry ok, r, q⟩
end
end FL

set_option Elab.async false
set_option linter.all false
set_option maxRecDepth 100000
set_option maxHeartbeats 2000000
/-! FL: what raise, try and isinstance of a caught exception mean. -/
namespace FL
open PySem PySem.Spec PyProof.Rows L2
/-- an exception class of the program, as the module has it -/
structure ClsF (K : PySem.W.Frag) (mg : Str → Option Value) (c : Str) : Prop where
  g : mg c = some (.ref (He.ga K c))
  x : PySem.W.excIn K (He.ga K c) He.veBase "ValueError.__new__" = true ∧ PySem.W.keepIn K (.ref (He.ga K c)) = true ∧ PySem.W.subIn K (.ref (He.ga K c)) (.type "BaseException") = some true ∧ PySem.W.typeIn K (.ref (He.ga K c)) = some (.type "type")
  e : ExcC K (He.ga K c)
/-- which classes are the class y or below it, for isinstance -/
def KitF (K : PySem.W.Frag) (mg : Str → Option Value) (y : Str) (tab : List (Str × Bool)) : Prop := ∀ p ∈ tab, ExcC K (He.ga K p.1) ∧ PySem.W.kitOne K (.ref (He.ga K p.1)) (.ref (He.ga K y)) = some p.2
/-- the same for an except clause -/
def ExmF (K : PySem.W.Frag) (mg : Str → Option Value) (y : Str) (tab : List (Str × Bool)) : Prop := ∀ p ∈ tab, mg p.1 = some (.ref (He.ga K p.1)) ∧ PySem.W.exmOne K (.ref (He.ga K p.1)) (.ref (He.ga K y)) = some p.2
theorem lookup_mem {tab : List (Str × Bool)} {c : Str} {b : Bool} (h : tab.lookup c = some b) : (c, b) ∈ tab := by
  induction tab with
  | nil => cases h
  | cons p tab ih =>
    obtain ⟨d, k⟩ := p
    unfold List.lookup at h
    by_cases hd : (c == d) = true
    · rw [hd] at h
      cases h
      rw [eq_of_beq hd]
      exact List.mem_cons_self
    · have hd' : (c == d) = false := by simpa using hd
      rw [hd'] at h
      exact List.mem_cons_of_mem _ (ih h)

/-! ### isinstance(e, X) -/
def rIsX (K : PySem.W.Frag) : List V → Hp → VK → Prop := fun xs H Q => ∃ (a C : Addr) (c : V) (cv : Value) (b : Bool), xs = [.ref a, c] ∧ H a = some (xcO a C) ∧ ExcC K C ∧ (∀ u, RelV c u → u = cv) ∧ PySem.W.kitOne K (.ref C) cv = some b ∧ Q (.bl b) H
theorem call_isX {X : Cx} : CallR X (.builtin "isinstance") (rIsX X.K) := by
  intro pins s σ H xs us Q I r h
  obtain ⟨a, D, c, cv, b, rfl, hH, C, hcv, e, q⟩ := h
  cases r with
  | cons rx rr =>
    cases rr with
    | cons rt rr =>
      cases rr
      cases rx
      have ec := hcv _ rt
      subst ec
      obtain ⟨⟨oe, hget, hz, vs, hv⟩, _⟩ := I.hok a _ hH
      have J : PySem.W.InstAt s.heap a oe D none := by
        obtain ⟨oc, od, oda, osl⟩ := oe
        obtain ⟨h1, h2⟩ := hz
        dsimp only at h1 h2 hv
        subst h1 h2 hv
        exact ⟨hget, rfl, rfl, trivial⟩
      exact PySem.W.kia_one (PySem.W.handS_kitx_exc C.hg C.hk C.hs C.hd C.ha C.hn C.ht C.hm) I.kIn J e (fun z => nomatch z) fun tk => ⟨.bl b, H, I.kept (t' := tk) fun _ _ z => z, rfl, q⟩
def gIsE (tab : List (Str × Bool)) : D → Option R
  | .dict [(.none, .str c)] => (tab.lookup c).map fun b => .d (.bool b)
  | _ => none
@[simp] theorem gIsE_x (tab : List (Str × Bool)) (c : Str) : gIsE tab (xD c) = (tab.lookup c).map fun b => .d (.bool b) := rfl
section
variable {X : Cx} {W : WX} {a : Expr} {Ea : S → Res R} {p pos : Pos}
theorem gIsE_ok {K : PySem.W.Frag} {mg : Str → Option Value} {y : Str} {tab : List (Str × Bool)} (T : KitF K mg y tab) : Op1 K (fun v H Q => rIsX K [v, .ref (He.ga K y)] H Q) (gIsE tab) := by
  intro a va H Q res ha e q
  unfold gIsE at e
  split at e
  · rename_i c
    obtain ⟨b, e1, rfl⟩ := Option.map_eq_some_iff.mp e
    obtain ⟨t1, t2⟩ := T _ (lookup_mem e1)
    obtain ⟨c', p, ec, rfl, hH⟩ := (show Fz K H (.dict _) va from ha)
    cases ec
    exact ⟨p, _, _, _, b, rfl, hH, t1, fun u r => r, t2, q _ _ new_bl⟩
  · cases e
theorem de_isE {y : Str} {pt : Pos} {tab : List (Str × Bool)} (hm : X.mg "isinstance" = none) (hy : X.mg y = some (.ref (He.ga X.K y))) (T : KitF X.K X.mg y tab) (ha : DE X W a Ea) (hg : Gl X "isinstance" := by rfl) (hgT : Gl X y := by rfl)
    (hdb : (y == ("__debug__" : Str)) = false := by decide) (he : starEach (a :: [.Name y pt]) X.env = (false, eval a X.env) :: starEach [.Name y pt] X.env := by rfl) (he2 : starEach (.Name y pt :: []) X.env = (false, eval (.Name y pt) X.env) :: starEach [] X.env := by rfl)
    (hpl : (backTo pos (starEach [.Name y pt] X.env)).any (·.1) = false := by rfl) : DE X W (.Call (.Name "isinstance" p) [a, .Name y pt] [] pos) (eOp1 (gIsE tab) Ea) :=
  pe_weak (pe_callB call_isX hg hm boot_isi' (pa_cons ha (pa_cons (pe_glob (v := .ref (He.ga X.K y)) hgT hy rfl hdb) pa_nil he2) he) (he := he) (hpl := hpl)) fun _ _ _ h => post_op1 (gIsE_ok T) h
end

/-! ### raise -/
@[simp] def sExc (c : Str) (σ : S) : Out := .exc c σ
theorem ds_raise {X : Cx} {W : WX} {c m : Str} {j : Nat} {p p2 pos pos2 : Pos} (F : ClsF X.K X.mg c) (tk : Takes X W) (hc : X.calm = true := by rfl) (hg : Gl X c := by rfl) (hdb : (c == ("__debug__" : Str)) = false := by decide) :
    DS X W (.Raise (some (.Call (.Name c p) [.Constant (.str m) j p2] [] pos)) none pos2) (sExc c) :=
  ps_weak (ps_raise hc tk (pmk_own PySem.F.excBase_ValueError F.x.1 F.g F.x.2.1 (raises_own F.x.2.2.1 F.x.2.2.2) hg hdb)) fun D σv H ⟨σ, s, h⟩ => h (.ref (He.ga X.K c)) σv H (.inl F.g) (Later.refl s)

/-! ### try -/
@[simp] def outOff (i : Nat) : Out → Out
  | .nx σ => .nx (σ.set i none)
  | .brk σ => .brk (σ.set i none)
  | .cnt σ => .cnt (σ.set i none)
  | .ret r σ => .ret r (σ.set i none)
  | _ => .bad
@[simp] def sTry (tab : List (Str × Bool)) (i : Nat) (B Hd : S → Out) (σ : S) : Out := match B σ with
  | .exc c σ1 => (match tab.lookup c with
    | some true => (match setSlot i (.d (xD c)) σ1 with
      | some σ2 => outOff i (Hd σ2)
      | none => .bad)
    | some false => .exc c σ1
    | none => .bad)
  | o => o
section
variable {K : PySem.W.Frag} {mg : Str → Option Value} {H H1 : Hp} {σ σ1 : S} {σv σv1 : L2.St}
theorem later_none {i : Nat} (r : SRel K H σ σv) (np : ∀ t ds, σ[i]? = some (some (.l t ds)) → t = .own) : Later K H σ σv H (σ.set i none) (σv.set i none) := by
  have atS : ∀ j t a, At (σ.set i none) (σv.set i none) j t a → j ≠ i ∧ At σ σv j t a := fun j t a ⟨⟨ds, e⟩, ev⟩ => by
    by_cases hj : j = i
    · subst hj
      have hl : j < σ.length := by
        have := (List.getElem?_eq_some_iff.mp e).1
        rw [List.length_set] at this
        exact this
      rw [List.getElem?_set_self hl] at e
      cases e
    · rw [List.getElem?_set_ne (Ne.symm hj)] at e ev
      exact ⟨hj, ⟨ds, e⟩, ev⟩
  refine ⟨Keep.refl _ _, ⟨by rw [List.length_set, List.length_set]; exact r.len, fun j c e => ?_, fun j k t u a h1 h2 => r.apart j k t u a (atS _ _ _ h1).2 (atS _ _ _ h2).2, r.tab⟩, fun j a h => .inl ⟨j, (atS _ _ _ h).2⟩, fun j t a n h => (atS _ _ _ h).2, fun j ds e => ?_, fun j ds e => ?_⟩
  · by_cases hj : j = i
    · subst hj
      have hl : j < σ.length := by
        have := (List.getElem?_eq_some_iff.mp e).1
        rw [List.length_set] at this
        exact this
      rw [List.getElem?_set_self hl] at e
      cases e
    · rw [List.getElem?_set_ne (Ne.symm hj)] at e ⊢
      exact r.val j c e
  · have hj : j ≠ i := fun z => by subst z; exact absurd (np _ _ e) (by decide)
    exact ⟨List.getElem?_set_ne (Ne.symm hj), ds, by rw [List.getElem?_set_ne (Ne.symm hj)]; exact e⟩
  · have hj : j ≠ i := fun z => by subst z; exact absurd (np _ _ e) (by decide)
    exact ⟨List.getElem?_set_ne (Ne.symm hj), by rw [List.getElem?_set_ne (Ne.symm hj)]; exact e⟩
end
theorem ds_try {X : Cx} {Wout : WX} {x n : Str} {i : Nat} {tab : List (Str × Bool)} {B Hd : S → Out} {body suite : List Stmt} {b₀ : Stmt} {np pos pos' : Pos} (hx : X.mg x = some (.ref (He.ga X.K x))) (T : ExmF X.K X.mg x tab) (tk : Takes X Wout) (hN : X.N.Nodup)
    (hb : ∀ (W : WX) (pn : List (Addr × Obj)) (xe : Value → Shared → Prop), Takes (X.tr pn xe) W → PassesOwn (model X.prog X.w) X.A X.env xe → DSs (X.tr pn xe) W body B)
    (hsu : ∀ (a : Addr) (pn : List (Addr × Obj)), DSs (X.suite a pn) W0 (b₀ :: suite) Hd)
    (hi : X.N[i]? = some n := by rfl) (hln : X.env.kindOf n = some .local := by rfl) (hg : Gl X x := by rfl) (hdb : (x == ("__debug__" : Str)) = false := by decide)
    (hs : X.stack = X.env :: X.outer := by rfl) (hf : X.env.frame = some X.env.locals := by rfl) (hex : X.ex = [] := by rfl) :
    DS X Wout (.Try body [.ExceptHandler (some (.Name x np)) (some n) (b₀ :: suite) pos'] [] [] pos) (sTry tab i B Hd) := by
  refine ps_weak (ps_try_x (c := .ref (He.ga X.K x)) (tb := fun W => rdS X.K X.mg W B) (ts := rdS X.K X.mg W0 Hd) hs hf hex hN hi hln ⟨hg, hdb, .inl hx⟩ tk hb hsu) fun D σv H ⟨σ, s, h⟩ => ⟨σ, s, ?_⟩
  unfold sTry at h
  cases ea : B σ with
  | nx σ1 => rw [ea] at h; exact h
  | brk σ1 => rw [ea] at h; exact h
  | cnt σ1 => rw [ea] at h; exact h
  | ret r σ1 => rw [ea] at h; exact h
  | bad => rw [ea] at h; exact h
  | exc c σ1 =>
    rw [ea] at h
    intro cls σv' H' ec l
    simp only at h
    cases et : tab.lookup c with
    | none => rw [et] at h; exact False.elim h
    | some b =>
      rw [et] at h
      obtain ⟨t1, t2⟩ := T _ (lookup_mem et)
      have ecls : cls = .ref (He.ga X.K c) := by
        rcases ec with q | ⟨q, _⟩
        · rw [t1] at q; cases q; rfl
        · rw [t1] at q; cases q
      subst ecls
      refine ⟨He.ga X.K c, b, rfl, rfl, t2, fun eb a na => ?_, fun eb => ?_⟩
      · subst eb
        simp only at h
        split at h
        · rename_i σ2 es
          obtain ⟨e2, hown⟩ := setSlot_eq es
          have same : Same H' (upd H' a (xcO a (He.ga X.K c))) := same_new na
          have l1 := l.same same
          have l2 : Later X.K H σ σv (upd H' a (xcO a (He.ga X.K c))) σ2 (σv'.set i (some (.ref a))) := by
            rw [e2]
            exact Later.store (c := .d (xD c)) s l1 hown ⟨c, a, rfl, rfl, upd_same⟩ fun ds a z => (by cases z)
          refine ⟨σ2, l2.rel, ?_⟩
          have hi2 : ∀ t ds, σ2[i]? ≠ some (some (C.l t ds)) := fun t ds z => by
            rw [e2] at z
            by_cases hl : i < σ1.length
            · rw [List.getElem?_set_self hl] at z; cases z
            · rw [List.getElem?_eq_none (by rw [List.length_set]; omega)] at z; cases z
          have off : ∀ {σ3 : S} {σv3 : L2.St} {H3 : Hp}, Later X.K (upd H' a (xcO a (He.ga X.K c))) σ2 (σv'.set i (some (.ref a))) H3 σ3 σv3 → Later X.K H σ σv H3 (σ3.set i none) (σv3.set i none) := fun {σ3 σv3 H3} l3 =>
            (l2.trans l3).trans (later_none l3.rel fun t ds e => by
              by_cases ht : t = .own
              · exact ht
              · obtain ⟨v, ev, p, _, e4, _⟩ := l3.rel.val i _ e
                obtain ⟨⟨ds', q⟩, _⟩ := l3.npar i t p ht ⟨⟨ds, e⟩, by rw [ev, e4]⟩
                exact absurd q (hi2 t ds'))
          cases eh : Hd σ2 with
          | nx σ3 => rw [eh] at h; exact fun σv3 H3 l3 => h _ H3 (off l3)
          | brk σ3 => rw [eh] at h; exact fun σv3 H3 l3 => h _ H3 (off l3)
          | cnt σ3 => rw [eh] at h; exact fun σv3 H3 l3 => h _ H3 (off l3)
          | ret r σ3 => rw [eh] at h; exact fun v σv3 H3 l3 rr => h v _ H3 (off l3) (RetRel.back l2 rr)
          | bad => rw [eh] at h; exact h
          | exc c' σ3 => rw [eh] at h; exact False.elim h
        · exact False.elim h
      · subst eb
        exact h _ σv' H' (.inl t1) l
end FL

set_option Elab.async false
set_option linter.all false
set_option maxRecDepth 100000
set_option maxHeartbeats 2000000
/-! FL: defs that may raise, and their calls. -/
namespace FL
open PySem PySem.Spec PyProof.Rows L2
section
variable {K : PySem.W.Frag} {mg : Str → Option Value} {H H' : Hp}
theorem body_okX {n k : Nat} {B : S → Out} {N : List Str} {vs : List V} {Q : VK} {E : XK} (hn : N.length = n) (h : spD K mg true k (funSem n B) vs H Q E) : rdS K mg (fun cls d _ H => E cls d H) B { nx := fun _ H' => Q .non H', rt := Q } (start N vs) H := by
  obtain ⟨hl, cs, s, ao, h⟩ := h
  have lc : cs.length = vs.length := by have := s.len; simpa using this
  have es : start N vs = vs.map some ++ List.replicate (n - (cs.map some).length) none := by
    show vs.map some ++ List.replicate (N.length - vs.length) none = _
    rw [hn, List.length_map, lc]
  rw [es]
  have sp := s.pad (n - (cs.map some).length)
  refine ⟨_, sp, ?_⟩
  unfold funSem at h
  have keep : ∀ {H' : Hp} {σ' : S} {σv' : L2.St}, Later K H (cs.map some ++ List.replicate (n - (cs.map some).length) none) (vs.map some ++ List.replicate (n - (cs.map some).length) none) H' σ' σv' → Keep (OwnM (cs.map some) (vs.map some)) H H' :=
    fun {H' σ' σv'} l => l.keep.mono fun x o _ z => ownM_pad s.len z
  have low : ∀ (i : Nat) (c : C), cs[i]? = some c → (cs.map some ++ List.replicate (n - (cs.map some).length) none)[i]? = some (some c) := fun i c e => by
    have hi := (List.getElem?_eq_some_iff.mp e).1
    rw [List.getElem?_append_left (by rw [List.length_map]; exact hi), List.getElem?_map, e]
    rfl
  have par : ∀ {H' : Hp} {σ' : S} {σv' : L2.St}, Later K H (cs.map some ++ List.replicate (n - (cs.map some).length) none) (vs.map some ++ List.replicate (n - (cs.map some).length) none) H' σ' σv' → ParOk K H' cs vs σ' :=
    fun {H' σ' σv'} l i ds e => by
      obtain ⟨e1, ds', e2⟩ := l.par i ds (low i _ e)
      obtain ⟨v, q1, a, ws, rfl, q2, q3⟩ := l.rel.val i _ e2
      rw [e1] at q1
      have hi := (List.getElem?_eq_some_iff.mp e).1
      rw [List.getElem?_append_left (by rw [List.length_map, ← lc]; exact hi), List.getElem?_map] at q1
      obtain ⟨w, w1, w2⟩ := Option.map_eq_some_iff.mp q1
      injection w2 with w2
      subst w2
      exact ⟨ds', a, ws, e2, w1, q2, q3⟩
  split at h
  · rename_i r σ' e
    split at e
    · rename_i σ'' eb
      rw [eb]
      cases e
      exact fun σv' H' l => h .non H' (keep l) (par l) rfl
    · cases e
    · rename_i r' σ'' ns eb
      rw [eb]
      cases e
      intro v σv' H' l rr
      refine h v H' (keep l) (par l) ?_
      cases r with
      | d x => exact rr
      | own ds =>
        obtain ⟨a, ws, e, h1, h2, h3⟩ := rr
        refine ⟨a, ws, e, ?_, h1, h2⟩
        rcases h3 with ⟨j, ⟨es, q⟩, _⟩ | h3
        · exfalso
          by_cases hj : j < cs.length
          · rw [List.getElem?_append_left (by rw [List.length_map]; exact hj), List.getElem?_map, List.getElem?_eq_getElem hj] at q
            have q' : cs[j] = C.l .own es := by simpa using q
            exact ao _ (List.getElem_mem hj) es q'
          · rw [List.getElem?_append_right (by rw [List.length_map]; omega), List.getElem?_replicate] at q
            split at q <;> cases q
        · exact h3
      | slot i => exact False.elim rr
    · cases e
    · cases e
  · rename_i c σ' e
    split at e
    · cases e
    · cases e
    · cases e
    · rename_i c' σ'' eb
      rw [eb]
      cases e
      exact fun cls σv' H' ec l => h.2 cls H' ec (keep l) (par l)
    · cases e
  · exact False.elim h
end
/-- the meaning of a def that may raise -/
@[simp] def funSemX (n : Nat) (B : S → Out) : Meaning := fun σ => match funSem n B σ with
  | .ok r σ' => .ok r (cut σ σ')
  | .exc c σ' => .exc c (cut σ σ')
  | .bad => .bad
theorem spD_cutX {K : PySem.W.Frag} {mg : Str → Option Value} {n k : Nat} {B : S → Out} {vs : List V} {H : Hp} {Q : VK} {E : XK} (h : spD K mg true k (funSemX n B) vs H Q E) : spD K mg true k (funSem n B) vs H Q E := by
  obtain ⟨hl, cs, s, ao, h⟩ := h
  refine ⟨hl, cs, s, ao, ?_⟩
  unfold funSemX at h
  have po' : ∀ {σ' : S} {H' : Hp}, ParOk K H' cs vs σ' → ParOk K H' cs vs (cut (cs.map some) σ') := fun {σ' H'} po i ds q => by
    obtain ⟨ds', a, ws, q1, q2⟩ := po i ds q
    exact ⟨ds', a, ws, by rw [cut_at _ _ i ds (by rw [List.getElem?_map, q]; rfl) (List.getElem?_eq_some_iff.mp q1).1]; exact q1, q2⟩
  cases e : funSem n B (cs.map some) with
  | bad => rw [e] at h; exact h
  | exc c σ' =>
    rw [e] at h
    exact ⟨rfl, fun cls H' ec kp po => h.2 cls H' ec kp (po' po)⟩
  | ok r σ' =>
    rw [e] at h
    exact fun v H' kp po rn => h v H' kp (po' po) rn
section
variable {P : Program} {w : World} {K : PySem.W.Frag} {mg : Str → Option Value} {base : Heap} {x qual : Str} {params : Arguments} {body : List Stmt} {scope : Scope} {dvs : List V} {kws : List (Str × V)} {f : Addr} {fd : FuncData}
/-- THE RULE for a def that may raise -/
theorem fn_okX {N ps : List Str} {k n : Nat} {B : S → Out} (F : FunD K x qual params body scope dvs kws f fd) (Tb : ∃ c T, fd.code = .ref c ∧ (c, T) ∈ tabs K) (Sc : FnScope N ps scope)
    (hbody : ∀ (c T : Addr) (A : Around) (outer : List Env) (s : Shared) (H : Hp) (E : XK) (W : WX), (c, T) ∈ tabs K → Room k (A.deeper (envOfC qual scope s.heap.objs.size f (.ref c))) → Takes (cxOf (L2.CX P w) P w K mg base N qual scope f (.ref c) A outer s H E) W →
      PassesOwn (model P w) (cxOf (L2.CX P w) P w K mg base N qual scope f (.ref c) A outer s H E).A (cxOf (L2.CX P w) P w K mg base N qual scope f (.ref c) A outer s H E).env (cxOf (L2.CX P w) P w K mg base N qual scope f (.ref c) A outer s H E).xe →
      DSs (cxOf (L2.CX P w) P w K mg base N qual scope f (.ref c) A outer s H E) W body B) (hn : N.length = n := by rfl) (hp : ps.length ≤ N.length := by decide) :
    FnOk P w K mg base (L2.CX P w) (k + 1) f fd ps (spD K mg true ps.length (funSemX n B)) := by
  obtain ⟨oc, od, dV, kV, doc, pm, an, cdv, ct, osl, rfl, lk, hcd, _, _⟩ := F.ex
  obtain ⟨c, T, ec, hin⟩ := Tb
  have ec : cdv = .ref c := ec
  subst ec
  exact (fn_of lk hcd Sc (fun vs H Q E h => h.1) fun A outer s H vs Q E hr h =>
    ⟨_, hbody c T A outer s H E (fun cls d _ H => E cls d H) hin hr (takes_of (X := cxOf (L2.CX P w) P w K mg base N qual scope f (.ref c) A outer s H E) (E := E) rfl rfl rfl rfl) (passes_of (X := cxOf (L2.CX P w) P w K mg base N qual scope f (.ref c) A outer s H E) rfl), body_okX hn h⟩ :
      FnOk P w K mg base (L2.CX P w) (k + 1) f _ ps (spD K mg true ps.length (funSem n B))).imp fun _ _ _ _ h => spD_cutX h
end
section
variable {X : Cx} {e : Expr} {es : List Expr} {AM : S → Res (List Ar)} {p pos : Pos} {k : Nat} {f : Addr} {fd : FuncData} {ps : List Str} {x : Str} {W : WX}
/-- a call of a def that may raise -/
theorem de_callX {m : Meaning} (F : FnOk X.prog X.w X.K X.mg X.base (L2.CX X.prog X.w) k f fd ps (spD X.K X.mg true ps.length m)) (tk : Takes X W) (hr : Room k X.A) (hm : X.mg x = some (.ref f)) (hk : PySem.W.keepIn X.K (.ref f) = true) (hb : Binds X.K fd ps [])
    (ha : DM X W (e :: es) AM) (hal : AL AM ps.length) (hlen : (e :: es).length = ps.length := by rfl) (hg : Gl X x := by rfl) (hdb : (x == ("__debug__" : Str)) = false := by decide) (he : starEach (e :: es) X.env = (false, eval e X.env) :: starEach es X.env := by rfl) (hpl : (backTo pos (starEach es X.env)).any (·.1) = false := by rfl) :
    DE X W (.Call (.Name x p) (e :: es) [] pos) (eCall m AM) :=
  de_call (ex := true) (by rw [hlen]; exact F) hr hg hm hk hb (fun σ => passAt tk σ) (.inl rfl) (by rw [hlen]; exact hal) ha hdb he hpl fun z => by cases z
end
theorem funX_ret {n : Nat} {B : S → Out} {σ σ' : S} {x : D} (h : B (σ ++ List.replicate (n - σ.length) none) = .ret (.d x) σ') : funSemX n B σ = .ok (.d x) (cut σ σ') := by
  unfold funSemX funSem
  rw [h]
theorem funX_nx {n : Nat} {B : S → Out} {σ σ' : S} (h : B (σ ++ List.replicate (n - σ.length) none) = .nx σ') : funSemX n B σ = .ok (.d .none) (cut σ σ') := by
  unfold funSemX funSem
  rw [h]
theorem funX_exc {n : Nat} {B : S → Out} {σ σ' : S} {c : Str} (h : B (σ ++ List.replicate (n - σ.length) none) = .exc c σ') : funSemX n B σ = .exc c (cut σ σ') := by
  unfold funSemX funSem
  rw [h]
end FL

set_option Elab.async false
set_option linter.all false
set_option maxRecDepth 100000
set_option maxHeartbeats 2000000
/-! FL: a list is unpacked, x[::-1], sorted of ints. -/
namespace HT
open PySem PySem.Spec PyProof.Rows
section
variable {prog : Program} {w : World} {A : Around} {E : Value → Shared → Prop} {s : Shared}
theorem sliceApplied_rev {sl : Addr} {vl vu vs : Value} {n : Nat} {Q : Int × Int × Nat → Shared → Prop} (hs : s.heap.IsSliceOf sl vl vu vs) (pl : IsPart vl none) (pu : IsPart vu none) (ps : IsPart vs (some (-1)))
    (h : Q ((n : Int) - 1, -1, n) s) : wpAny (model prog w) A (Builtin.Slice.sliceApplied (.ref sl) (pure (n : Int))) Q E s := by
  obtain ⟨os, hos, hcs, hds⟩ := id hs
  unfold Builtin.Slice.sliceApplied Builtin.Slice.sliceFields
  refine wpAny_bind (wpAny_bind (wpAny_field hos hds (x := vl) rfl (wpAny_bind (wpAny_field hos hds (x := vu) rfl (wpAny_bind (wpAny_field hos hds (x := vs) rfl (wpAny_pure ?_)))))))
  refine wpAny_bind (slicePart_ ps ?_)
  show wpAny _ _ (if ((-1 : Int) == 0) = true then _ else _) _ _ s
  rw [if_neg (by decide)]
  refine wpAny_bind (slicePart_ pl (wpAny_bind (slicePart_ pu (wpAny_bind (wpAny_pure ?_)))))
  show wpAny _ _ (pure ((n : Int) - 1, (-1 : Int), Builtin.Slice.slicePlaces ((n : Int) - 1) (-1) (-1))) _ _ s
  have e : Builtin.Slice.slicePlaces ((n : Int) - 1) (-1) (-1) = n := by
    unfold Builtin.Slice.slicePlaces
    have h1 : ¬ ((-1 : Int) > 0) := by omega
    simp only [h1, if_false]
    by_cases hn : n = 0
    · subst hn; decide
    · have h2 : ((n : Int) - 1 > -1) := by omega
      simp only [h2, if_true]
      rw [show -(-1 : Int) = 1 from rfl, Int.ediv_one]
      omega
  rw [e]
  exact wpAny_pure h
theorem pick_rev (xs : Array Value) : ((List.range xs.size).filterMap fun (m : Nat) => xs[(((xs.size : Int) - 1) + (m : Int) * -1).toNat]?).toArray = xs.toList.reverse.toArray := by
  congr 1
  have e : ∀ (l : List Nat), (∀ m ∈ l, m < xs.size) → (l.filterMap fun (m : Nat) => xs[(((xs.size : Int) - 1) + (m : Int) * -1).toNat]?) = l.map fun m => xs.getD (xs.size - 1 - m) .none := by
    intro l
    induction l with
    | nil => intro _; rfl
    | cons m l ih =>
      intro h
      have hm := h m List.mem_cons_self
      have e1 : (((xs.size : Int) - 1) + (m : Int) * -1).toNat = xs.size - 1 - m := by omega
      have e2 : xs[xs.size - 1 - m]? = some (xs.getD (xs.size - 1 - m) .none) := by
        rw [Array.getElem?_eq_getElem (by omega)]
        simp [Array.getD, show xs.size - 1 - m < xs.size by omega]
      rw [List.filterMap_cons, e1, e2, List.map_cons]
      simp only
      rw [ih fun m hm => h m (List.mem_cons_of_mem _ hm)]
  rw [e _ fun m hm => List.mem_range.mp hm]
  apply List.ext_getElem
  · simp
  · intro i h1 h2
    have hi : i < xs.size := by simpa using h1
    simp [Array.getD, show xs.size - 1 - i < xs.size by omega]
theorem getItem_tuple_rev {t sl : Addr} {items : Array Value} {vl vu vs : Value} {Q : Value → Shared → Prop} (ht : IsTup s.heap t items) (hs : s.heap.IsSliceOf sl vl vu vs) (pl : IsPart vl none) (pu : IsPart vu none) (ps : IsPart vs (some (-1)))
    (h : Q (.ref s.heap.objs.size) { s with heap := s.heap.push { cls := .type "tuple", data := .seq items.toList.reverse.toArray } })
    (hsz : items.size ≤ sizeLine) : wpAny (model prog w) A (getItem (.ref t) (.ref sl)) Q E s := by
  have htake : sizeOk (.seq items.toList.reverse.toArray) := by
    show items.toList.reverse.toArray.size ≤ sizeLine
    rw [List.size_toArray, List.length_reverse, Array.length_toList]
    exact hsz
  obtain ⟨os, hos, hcs, hds⟩ := id hs
  have hTs : s.TypeIs (.ref sl) "slice" := ⟨os, hos, hcs⟩
  unfold getItem
  try with_reducible refine wpAny_holding ?_
  first | refine wpAny_bind (wpAny_pure ?_) | skip
  refine wpAny_bind (wpAny_sequenceKey ht.typeIs (by decide) ?_)
  refine wpAny_bind (wpAny_callSpecial?_slot (name := Str.ofString "__getitem__") ht.typeIs PyProof.Rows.slot_tuple_getitem
    (wpAny_call_entry PyProof.Rows.slot_tuple_getitem ht.typeIs entry_tuple_getitem ?_ (args_tuple_getitem _ _)))
  show wpAny _ _ (Builtin.Tuple.tupleItemsOf (.ref t) >>= _) _ _ s
  refine wpAny_bind (tupleItemsOf_ ht ?_)
  refine wpAny_bind (wpAny_typeOf hTs ?_)
  rw [if_pos (by decide)]
  refine wpAny_bind (sliceApplied_rev hs pl pu ps ?_)
  have hno : ¬ ((((items.size : Int) - 1) == 0 && (-1 : Int) == 1 && items.size == items.size) = true) := by
    intro q
    rw [Bool.and_eq_true, Bool.and_eq_true] at q
    exact absurd q.1.2 (by decide)
  show wpAny _ _ (if (((items.size : Int) - 1) == 0 && (-1 : Int) == 1 && items.size == items.size) = true then _ else _) _ _ s
  rw [if_neg hno, pick_rev]
  first
    | exact wpAny_bind (m := Builtin.Tuple.tupleExact _) (wpAny_newObj_type (wpAny_pure ⟨_, rfl, wpAny_pure h⟩) htake)
    | exact wpAny_bind (m := Builtin.Tuple.tupleExact _) (wpAny_newObj_type (wpAny_bind (wpAny_pure (wpAny_pure ⟨_, rfl, wpAny_pure h⟩))) htake)
    | exact wpAny_bind (wpAny_bind (m := Builtin.Tuple.tupleExact _) (wpAny_newObj_type (wpAny_pure (wpAny_pure ⟨_, rfl, wpAny_pure h⟩)) htake))
    | exact wpAny_bind (wpAny_bind (m := Builtin.Tuple.tupleExact _) (wpAny_newObj_type (wpAny_pure ⟨_, rfl, wpAny_pure h⟩) htake))
end
end HT
namespace FL
open PySem PySem.Spec PyProof.Rows L2
section
variable {X : Cx} {W : WX} {a b c e : Expr} {Ea Eb E : S → Res R} {p pos : Pos}
/-! ### x[::-1] -/
def rRevX (K : PySem.W.Frag) : V → Hp → VK → Prop := fun x H Q => ∃ a xs, x = .ref a ∧ ((SqL K H a xs ∧ ∀ p, H p = none → Q (.ref p) (upd H p (.lst xs.reverse))) ∨ (SqT K H a xs ∧ ∀ p, H p = none → Q (.ref p) (upd H p (.tup xs.reverse))))
theorem pe_revX {te : TE} {k : Nat} {p1 p2 p3 pos : Pos} (he : PE X e te) : PE X (.Subscript e (.Slice none none (some (.UnaryOp .USub (.Constant (.int 1) k p1) p2)) p3) pos) (fun σ H Q => te σ H fun x H1 => rRevX X.K x H1 Q) := by
  refine ⟨fun pins s σ H Q I h => ?_⟩
  refine Subscript_ (thn (he.run pins s σ H _ I h) fun v s1 ⟨x, H1, I1, r1, q1⟩ => ?_)
  obtain ⟨a, xs, ex, hx⟩ := q1
  subst ex
  cases r1
  have hst : PO X (some (.UnaryOp .USub (.Constant (.int 1) k p1) p2)) (tPart (tUn (rU fun i => .int (-i)) (tC (.int 1)))) := po_some (pe_un un_neg pe_int)
  refine wpAny_Slice (thn (po_none.run pins s1 σ H1 (fun o H2 => o = none ∧ H2 = H1) I1 ⟨rfl, rfl⟩) fun vl s2 ⟨l, H2, I2, pl, el, e2⟩ => ?_)
  subst el e2
  refine thn (po_none.run pins s2 σ H2 (fun o H3 => o = none ∧ H3 = H2) I2 ⟨rfl, rfl⟩) fun vu s3 ⟨u, H3, I3, pu, eu, e3⟩ => ?_
  subst eu e3
  refine thn (hst.run pins s3 σ H3 (fun o H4 => o = some (-1) ∧ H4 = H3) I3 ⟨1, rfl, -1, rfl, rfl, rfl⟩) fun vs s4 ⟨o, H4, I4, ps, eo, e4⟩ => ?_
  subst eo e4
  have I5 : Inv X pins σ H4 { s4 with heap := s4.heap.push { cls := .type "slice", data := .fields #[vl, vu, vs] } } := I4.kept (t' := s4.toks) fun b ob q => Heap.get?_push_of_some _ q
  rcases hx with ⟨hx, q⟩ | ⟨hx, q⟩
  · obtain ⟨its, r, ht, hz⟩ := I5.list hx
    have hlen := r.length
    show wpAny (model X.prog X.w) X.A (subscriptTail e (.Slice none none (some (.UnaryOp .USub (.Constant (.int 1) k p1) p2)) p3) (.ref a) (.ref s4.heap.objs.size)) (EP X pins σ Q) X.xe { s4 with heap := s4.heap.push { cls := .type "slice", data := .fields #[vl, vu, vs] } }
    refine tail_any (ops := [.ref a, .ref s4.heap.objs.size]) ht.isList.typeIs (PySem.slot_list_getitem.lookup) ?_ (by with_unfolding_all rfl)
    refine wpAny_getItem_list_slice ht.isList (Heap.IsSliceOf.new _ vl vu vs) pl pu ps (by decide) ?_ (by rw [List.size_toArray]; omega)
    rw [PySem.W.krv_pick]
    refine ⟨.ref _, _, I5.laid (t' := s4.toks) (o := .lst xs.reverse) (fun b ob q => Heap.get?_push_of_some _ q) (Nat.le_refl _) ?_, rfl, q _ (I5.hok.fresh (Nat.le_refl _))⟩
    exact ⟨by rw [List.length_reverse]; exact hz, _, 0, r.reverse, Heap.get?_push_size _ rfl⟩
  · obtain ⟨its, r, ht, hz⟩ := I5.tuple hx
    have hlen := r.length
    show wpAny (model X.prog X.w) X.A (subscriptTail e (.Slice none none (some (.UnaryOp .USub (.Constant (.int 1) k p1) p2)) p3) (.ref a) (.ref s4.heap.objs.size)) (EP X pins σ Q) X.xe { s4 with heap := s4.heap.push { cls := .type "slice", data := .fields #[vl, vu, vs] } }
    refine tail_any (ops := [.ref a, .ref s4.heap.objs.size]) ht.typeIs (PyProof.Rows.slot_tuple_getitem.lookup) ?_ (by with_unfolding_all rfl)
    refine HT.getItem_tuple_rev ht (Heap.IsSliceOf.new _ vl vu vs) pl pu ps ?_ (by rw [List.size_toArray]; omega)
    refine ⟨.ref _, _, I5.laid (t' := s4.toks) (o := .tup xs.reverse) (fun b ob q => Heap.get?_push_of_some _ q) (Nat.le_refl _) ?_, rfl, q _ (I5.hok.fresh (Nat.le_refl _))⟩
    exact ⟨by rw [List.length_reverse]; exact hz, _, r.reverse, IsTup.new _ _⟩
@[simp] def gRevX : D → Option R
  | .list ds => some (.own ds.reverse)
  | .tuple ds => some (.d (.tuple ds.reverse))
  | _ => none
theorem gRevX_ok {K : PySem.W.Frag} : Op1 K (rRevX K) gRevX := by
  intro a va H Q res ha e q
  unfold gRevX at e
  split at e
  · cases e
    obtain ⟨p, xs, rfl, h1, h2⟩ := (show ∃ a xs, va = .ref a ∧ Rd H a (.lst xs) ∧ FzAll K H _ xs from ha)
    refine ⟨p, xs, rfl, .inl ⟨.inl h1, fun r hr => q _ _ ⟨same_new hr, r, xs.reverse, rfl, hr, upd_same, ?_⟩⟩⟩
    exact FzAll.mono (Same.imm (same_new hr)) _ h2.reverse
  · cases e
    obtain ⟨p, xs, rfl, h1, h2⟩ := (show Fz K H (.tuple _) va from ha)
    refine ⟨p, xs, rfl, .inr ⟨h1, fun r hr => q _ _ ⟨same_new hr, r, xs.reverse, rfl, .inl (.inl upd_same), ?_⟩⟩⟩
    exact FzAll.mono (Same.imm (same_new hr)) _ h2.reverse
  · cases e
theorem de_revX {k : Nat} {p1 p2 p3 pos : Pos} (ha : DE X W a Ea) : DE X W (.Subscript a (.Slice none none (some (.UnaryOp .USub (.Constant (.int 1) k p1) p2)) p3) pos) (eOp1 gRevX Ea) :=
  pe_weak (pe_revX ha) fun σv H Q h => post_op1 gRevX_ok h
/-! ### sorted, of ints -/
end
def ins (x : Int) : List Int → List Int
  | [] => [x]
  | y :: l => if x ≤ y then x :: y :: l else y :: ins x l
def srt : List Int → List Int
  | [] => []
  | x :: l => ins x (srt l)
theorem ins_perm (x : Int) : ∀ l : List Int, (ins x l).Perm (x :: l)
  | [] => List.Perm.refl _
  | y :: l => by
    unfold ins
    split
    · exact List.Perm.refl _
    · exact ((ins_perm x l).cons y).trans (List.Perm.swap x y l)
theorem srt_perm : ∀ l : List Int, (srt l).Perm l
  | [] => List.Perm.refl _
  | x :: l => (ins_perm x (srt l)).trans ((srt_perm l).cons x)
theorem ins_sorted (x : Int) : ∀ l : List Int, l.Pairwise (· ≤ ·) → (ins x l).Pairwise (· ≤ ·)
  | [], _ => List.pairwise_singleton _ _
  | y :: l, h => by
    unfold ins
    obtain ⟨h1, h2⟩ := List.pairwise_cons.mp h
    split
    · rename_i hxy
      refine List.pairwise_cons.mpr ⟨fun z hz => ?_, h⟩
      rcases List.mem_cons.mp hz with rfl | hz
      · exact hxy
      · exact Int.le_trans hxy (h1 z hz)
    · rename_i hxy
      refine List.pairwise_cons.mpr ⟨fun z hz => ?_, ins_sorted x l h2⟩
      rcases List.mem_cons.mp ((ins_perm x l).mem_iff.mp hz) with rfl | hz
      · omega
      · exact h1 z hz
theorem srt_sorted : ∀ l : List Int, (srt l).Pairwise (· ≤ ·)
  | [] => List.Pairwise.nil
  | x :: l => ins_sorted x _ (srt_sorted l)
theorem sorted_unique : ∀ l m : List Int, l.Pairwise (· ≤ ·) → m.Pairwise (· ≤ ·) → l.Perm m → l = m
  | [], m, _, _, h => h.nil_eq
  | x :: l, [], _, _, h => absurd h.length_eq (by simp)
  | x :: l, y :: m, h1, h2, h => by
    obtain ⟨a1, a2⟩ := List.pairwise_cons.mp h1
    obtain ⟨b1, b2⟩ := List.pairwise_cons.mp h2
    have hxy : x = y := by
      have m1 : x ∈ y :: m := h.mem_iff.mp List.mem_cons_self
      have m2 : y ∈ x :: l := h.mem_iff.mpr List.mem_cons_self
      rcases List.mem_cons.mp m1 with e | m1
      · exact e
      rcases List.mem_cons.mp m2 with e | m2
      · exact e.symm
      have := b1 x m1
      have := a1 y m2
      omega
    subst hxy
    rw [sorted_unique l m a2 b2 ((List.perm_cons x).mp h)]
section
variable {X : Cx} {W : WX} {a b c e : Expr} {Ea Eb E : S → Res R} {p pos : Pos}
def gSorted : D → Option R
  | .list ds => (intsOf ds).map fun ns => .own ((srt ns).map PyData.int)
  | _ => none
theorem fzAll_ints {K : PySem.W.Frag} {H : Hp} : ∀ (ns : List Int), FzAll K H (ns.map PyData.int) (ns.map V.int)
  | [] => FzAll.nil
  | n :: ns => FzAll.cons (show V.int n = V.int n from rfl) (fzAll_ints ns)
theorem fzAll_ints' {K : PySem.W.Frag} {H : Hp} : ∀ (ns : List Int) (vs : List V), FzAll K H (ns.map PyData.int) vs → vs = ns.map V.int
  | [], vs, h => h
  | n :: ns, vs, h => by
    obtain ⟨x, r, rfl, h1, h2⟩ := h
    rw [show x = V.int n from h1, fzAll_ints' ns r h2]
    rfl
theorem gSorted_ok {K : PySem.W.Frag} : Op1 K (fun v H Q => rSortedI K [v] H Q) gSorted := by
  intro a va H Q res ha e q
  unfold gSorted at e
  split at e
  · rename_i ds
    obtain ⟨ns, e1, rfl⟩ := Option.map_eq_some_iff.mp e
    have eds := intsOf_eq e1
    subst eds
    obtain ⟨p, xs, rfl, h1, h2⟩ := (show ∃ a xs, va = .ref a ∧ Rd H a (.lst xs) ∧ FzAll K H _ xs from ha)
    have exs := fzAll_ints' ns xs h2
    subst exs
    refine ⟨p, ns, rfl, .inl h1, fun ns' r hp hs hr => ?_⟩
    have : ns' = srt ns := sorted_unique _ _ hs (srt_sorted ns) (hp.trans (srt_perm ns).symm)
    subst this
    exact q _ _ ⟨same_new hr, r, _, rfl, hr, upd_same, fzAll_ints _⟩
  · cases e
theorem boot_sorted' : bootBuiltins "sorted" = some (.builtin "sorted") := by decide +kernel
theorem de_sorted (hm : X.mg "sorted" = none) (ha : DE X W a Ea) (hg : Gl X "sorted" := by rfl) (he : starEach (a :: []) X.env = (false, eval a X.env) :: starEach [] X.env := by rfl)
    (hpl : (backTo pos (starEach [] X.env)).any (·.1) = false := by rfl) : DE X W (.Call (.Name "sorted" p) [a] [] pos) (eOp1 gSorted Ea) :=
  pe_weak (pe_callB cr_sortedI hg hm boot_sorted' (pa_cons ha pa_nil he) (he := he) (hpl := hpl)) fun _ _ _ h => post_op1 gSorted_ok h
/-! ### a, b, c = xs, xs a list -/
@[simp] def sUnpL (gs : List G) (E : S → Res R) (σ : S) : Out := match E σ with
  | .ok r σ1 => (match view σ1 r with
    | some (.list ds) => (match gAll gs ds σ1 with
      | some σ2 => .nx σ2
      | none => .bad)
    | _ => .bad)
  | .exc c σ1 => .exc c σ1
  | .bad => .bad
theorem gAll_len : ∀ (gs : List G) (ds : List D) (σ σ2 : S), gAll gs ds σ = some σ2 → ds.length = gs.length
  | [], [], _, _, _ => rfl
  | [], _ :: _, _, _, e => by cases e
  | _ :: _, [], _, _, e => by cases e
  | g :: gs, d :: ds, σ, σ2, e => by
    obtain ⟨σ1, _, e2⟩ := Option.bind_eq_some_iff.mp e
    rw [List.length_cons, List.length_cons, gAll_len gs ds σ1 σ2 e2]
theorem ds_unpL {vs : List Nat} {gs : List G} {es : List Expr} {k : Nat} {tp : Pos} (he : DE X W e E) (hc : X.calm = true) (hg : DGs X es vs gs) (hn : (assignEach es X.env).length = gs.length := by rfl) (hst : (assignEach es X.env).findIdx? (·.1) = none := by rfl)
    (hs : swapsWithSole [.Tuple es k tp] e pos.line X.env = pure false := by rfl) (hw : swappedStores [.Tuple es k tp] e X.env = pure none := by rfl)
    (h1 : (assignEach [.Tuple es k tp] X.env).map (·.2) = [assign (.Tuple es k tp) X.env] := by rfl) : DS X W (.Assign [.Tuple es k tp] e pos) (sUnpL gs E) := ps_weak (ps_asg he (pg_lst hc hg hn hst) hs hw h1) fun Dd σv H ⟨σ, s, h⟩ => by
  refine ⟨σ, s, ?_⟩
  unfold sUnpL at h
  cases ea : E σ with
  | bad => rw [ea] at h; exact False.elim h
  | exc c σ1 => rw [ea] at h; exact PostS.exc_of h
  | ok r σ1 =>
    rw [ea] at h
    intro v H1 st rr
    simp only at h
    split at h
    · rename_i ds ev
      obtain ⟨a, xs, rfl, r1, r2⟩ := (show ∃ a xs, v = .ref a ∧ Rd H1 a (.lst xs) ∧ FzAll X.K H1 ds xs from rr.view st.rel ev)
      split at h
      · rename_i σ2 e2
        exact ⟨a, xs, rfl, .inl r1, by rw [← r2.length]; exact gAll_len _ _ _ _ e2, σ1, ds, σ2, st.rel, r2, e2, fun σv' l _ _ => h _ _ (st.toLater.trans l)⟩
      · exact False.elim h
    · exact False.elim h
end
theorem takesW {X : Cx} : Takes X W0 := fun _ _ ⟨_, _, _, _, _, _, _, _, _, _, _, _, _, _, _, _, w⟩ => w.elim
end FL

set_option Elab.async false
set_option linter.all false
set_option maxRecDepth 100000
set_option maxHeartbeats 2000000
/-! FL: targets that store into a list: a[i], b = e. -/
namespace FL
open PySem PySem.Spec PyProof.Rows L2
def rdG2 (K : PySem.W.Frag) (g : G) : TG := fun v σv H Q => ∃ σ d σ2, SRel K H σ σv ∧ Fz K H d v ∧ g d σ = some σ2 ∧ ∀ σv' H', Later K H σ σv H' σ2 σv' → Q σv' H'
def rdGs2 (K : PySem.W.Frag) (gs : List G) : TGs := fun xs σv H Q => ∃ σ ds σ2, SRel K H σ σv ∧ FzAll K H ds xs ∧ gAll gs ds σ = some σ2 ∧ ∀ σv' H', Later K H σ σv H' σ2 σv' → Q σv' H'
abbrev DG2 (X : Cx) (e : Expr) (g : G) : Prop := PG X e (rdG2 X.K g)
abbrev DGs2 (X : Cx) (es : List Expr) (gs : List G) : Prop := PGs X es (rdGs2 X.K gs)
/-- x[i] as a target, x the list of slot i -/
@[simp] def gIxT (i : Nat) (Ei : S → Res R) : G := fun d σ => if isL σ i = true then (match Ei σ with
  | .ok ri σ1 => (match view σ1 ri, σ1[i]? with
    | some (.int k), some (some (.l t es)) => if t = .lck then none else (ixN es.length k).map fun j => σ1.set i (some (.l t (es.set j d)))
    | _, _ => none)
  | _ => none) else none
section
variable {X : Cx} {e c : Expr} {es : List Expr} {pos : Pos} {Ei E : S → Res R} {W : WX}
theorem dg2_name {i : Nat} {x : Str} (hN : X.N.Nodup) (hi : X.N[i]? = some x := by rfl) (hx : Loc X.env.scope x := by first | exact Or.inl rfl | exact Or.inr rfl) (hf : X.fn x = true ∨ X.env.scope.names.lookup x = some .local := by first | exact .inl rfl | exact .inr rfl) : DG2 X (.Name x pos) (gN i) :=
  pg_weak (pg_name hN hi hx hf) fun v σv H Q ⟨σ, d, σ2, s, hd, e, h⟩ => by
    obtain ⟨rfl, nl⟩ := setSlot_eq e
    exact h _ H (Later.store s (Later.refl s) nl hd fun _ _ e => by cases e)
theorem dg2_sub {i : Nat} {x : Str} {p tpos : Pos} (hi : DE X W0 c Ei)
    (hN : X.N[i]? = some x := by rfl) (hv : Vis X.env.scope x := by first | exact Or.inl rfl | exact Or.inr (Or.inl rfl) | exact Or.inr (Or.inr rfl)) (hd : (x == ("__debug__" : Str)) = false := by decide)
    (hcd : (x == ("__classdict__" : Str)) = false := by decide)
    (ha : ∀ v, assign (.Subscript (.Name x p) c tpos) X.env v = (do
      let ov ← holding [v] (eval (.Name x p) X.env)
      let iv ← holding [v, ov] (eval c X.env)
      standAt tpos
      holding [v, ov, iv] (setItem ov iv v)
      release [v, ov, iv] []) := by intro _; rfl) : DG2 X (.Subscript (.Name x p) c tpos) (gIxT i Ei) :=
  pg_weak (pg_sub (de_name (W := W0) hN hv hd hcd) hi set_list ha) fun v σv H Q ⟨σ, d, σ2, s, hd, e, h⟩ => by
    unfold gIxT at e
    split at e
    · rename_i hl
      obtain ⟨t0, es0, el⟩ := isL_of hl
      refine ⟨σ, s, ?_⟩
      have en : eName i σ = .ok (.slot i) σ := by unfold eName; rw [el]
      rw [en]
      intro v0 H1 st rr
      obtain ⟨e1, _⟩ := rr
      refine ⟨σ, st.rel, ?_⟩
      split at e
      · rename_i ri σ1 ei
        rw [ei]
        intro vi H2 st2 rr2
        split at e
        · rename_i k t es ek e2
          split at e
          · cases e
          · rename_i nt
            obtain ⟨j, ej, eσ⟩ := Option.map_eq_some_iff.mp e
            subst eσ
            have st12 := st.trans st2
            obtain ⟨q, vs, rfl, q1, q2⟩ := slot_at st12.rel e1 e2
            have hd : Fz X.K H2 d v := Fz.mono (st12.imm s) d hd
            refine ⟨q, vs, k, j, rfl, view_int (rr2.view st2.rel ek), q1, by rw [← q2.length]; exact ej, ?_⟩
            exact h σv _ (st12.mut e2 nt e1 q1 (q2.set j hd)).toLater
        · cases e
      · cases e
    · cases e
theorem dgs2_nil : DGs2 X [] [] := pgs_weak pgs_nil fun xs σv H Q ⟨σ, ds, σ2, s, hd, e, h⟩ => by
  cases ds with
  | nil => cases e; exact ⟨hd, h _ H (Later.refl s)⟩
  | cons d ds => cases e
theorem dgs2_cons {g : G} {gs : List G} (h1 : DG2 X e g) (h2 : DGs2 X es gs)
    (hs : (assignEach (e :: es) X.env).map (·.2) = assign e X.env :: (assignEach es X.env).map (·.2) := by rfl) : DGs2 X (e :: es) (g :: gs) := pgs_weak (pgs_cons h1 h2 hs) fun xs σv H Q ⟨σ, ds, σ2, s, hd, e, h⟩ => by
  cases ds with
  | nil => cases e
  | cons d ds =>
    obtain ⟨x, r, rfl, q1, q2⟩ := hd
    obtain ⟨σ1, e1, e2⟩ := Option.bind_eq_some_iff.mp e
    exact ⟨x, r, rfl, σ, d, σ1, s, q1, e1, fun σv1 H1 l1 => ⟨σ1, ds, σ2, l1.rel, FzAll.mono (l1.imm s) ds q2, e2, fun σv2 H2 l2 => h _ _ (l1.trans l2)⟩⟩
theorem dg2_tup {k : Nat} {gs : List G} (hc : X.calm = true) (h : DGs2 X es gs) (hn : (assignEach es X.env).length = gs.length := by rfl) (hst : (assignEach es X.env).findIdx? (·.1) = none := by rfl) : DG2 X (.Tuple es k pos) (gT gs) :=
  pg_weak (pg_tup hc h hn hst) fun v σv H Q ⟨σ, d, σ2, s, hd, e, h⟩ => by
    cases d with
    | tuple ds =>
      obtain ⟨a, xs, rfl, q1, q2⟩ := hd
      exact ⟨a, xs, rfl, q1, by rw [← q2.length]; exact gAll_len _ _ _ _ e, σ, ds, σ2, s, q2, e, h⟩
    | _ => cases e
theorem ds_unp2 {g : G} {tg : Expr} (he : DE X W e E) (hg : DG2 X tg g) (hs : swapsWithSole [tg] e pos.line X.env = pure false := by rfl) (hw : swappedStores [tg] e X.env = pure none := by rfl)
    (h1 : (assignEach [tg] X.env).map (·.2) = [assign tg X.env] := by rfl) : DS X W (.Assign [tg] e pos) (sUnp g E) := ps_weak (ps_asg (de_frz he) hg hs hw h1) fun Dd σv H ⟨σ, s, h⟩ => by
  refine ⟨σ, s, ?_⟩
  unfold sUnp at h
  unfold eFrz
  cases ea : E σ with
  | bad => rw [ea] at h; exact False.elim h
  | exc c σ1 => rw [ea] at h; exact PostS.exc_of h
  | ok r σ1 =>
    rw [ea] at h
    simp only [Res.bind] at h ⊢
    rcases toD_cases r σ1 with ⟨d, σ2, ed⟩ | ed
    · rw [ed] at h ⊢
      simp only at h ⊢
      intro v H1 st rr
      split at h
      · rename_i σ3 e3
        exact ⟨σ2, d, σ3, st.rel, rr, e3, fun σv' H' l => h _ _ (st.toLater.trans l)⟩
      · exact False.elim h
    · rw [ed] at h
      exact False.elim h
end
end FL

set_option Elab.async false
set_option linter.all false
set_option maxRecDepth 100000
/-! what the defs mean that many laws have -/
namespace FL.Com
open PySem FL
noncomputable section
/-! _law_lowest(part, whole); slots 0:part 1:whole 2:one 3:other -/
def w__law_lowest_1 : S → Res Bool := tTru isBool (eOp2 gGt (eName 3) (eC (.int 0)))
def l__law_lowest_1 : S → Out := sPar [2, 3] (rCons (eName 3) (rCons (eOp2 gMod (eOp1 gToInt (eName 2)) (eName 3)) (rNil)))
def b__law_lowest : S → Out := sSeq (sPar [2, 3] (rCons (eOp1 gAbs (eName 0)) (rCons (eOp1 gAbs (eName 1)) (rNil)))) (sSeq (sWhile (w__law_lowest_1) (l__law_lowest_1)) (sSeq (sIf (tTru isBool (eOp2 gLt (eName 1) (eC (.int 0)))) (sSet 2 (eOp1 gNeg (eName 2))) (sNx)) (sRet (eTup (aCons (eOp2 gFdv (eName 0) (eName 2)) (aCons (eOp2 gFdv (eName 1) (eName 2)) (aNil)))))))
def m__law_lowest : Meaning := funSem0 4 b__law_lowest
theorem ne__law_lowest : ∀ cs c σ, m__law_lowest cs ≠ .exc c σ := funSem0_noexc
/-! _law_plus(one, other); slots 0:one 1:other -/
def b__law_plus : S → Out := sRet (eCall m__law_lowest (mVal (eOp2 gAdd (eOp2 gMul (eOp2 gIx (eName 0) (eC (.int 0))) (eOp2 gIx (eName 1) (eC (.int 1)))) (eOp2 gMul (eOp2 gIx (eName 1) (eC (.int 0))) (eOp2 gIx (eName 0) (eC (.int 1))))) (mVal (eOp2 gMul (eOp2 gIx (eName 0) (eC (.int 1))) (eOp2 gIx (eName 1) (eC (.int 1)))) (mNil))))
def m__law_plus : Meaning := funSem0 2 b__law_plus
theorem ne__law_plus : ∀ cs c σ, m__law_plus cs ≠ .exc c σ := funSem0_noexc
/-! _law_minus(one, other); slots 0:one 1:other -/
def b__law_minus : S → Out := sRet (eCall m__law_plus (mVal (eName 0) (mVal (eTup (aCons (eOp1 gNeg (eOp2 gIx (eName 1) (eC (.int 0)))) (aCons (eOp2 gIx (eName 1) (eC (.int 1))) (aNil)))) (mNil))))
def m__law_minus : Meaning := funSem0 2 b__law_minus
theorem ne__law_minus : ∀ cs c σ, m__law_minus cs ≠ .exc c σ := funSem0_noexc
/-! _law_times(one, other); slots 0:one 1:other -/
def b__law_times : S → Out := sRet (eCall m__law_lowest (mVal (eOp2 gMul (eOp2 gIx (eName 0) (eC (.int 0))) (eOp2 gIx (eName 1) (eC (.int 0)))) (mVal (eOp2 gMul (eOp2 gIx (eName 0) (eC (.int 1))) (eOp2 gIx (eName 1) (eC (.int 1)))) (mNil))))
def m__law_times : Meaning := funSem0 2 b__law_times
theorem ne__law_times : ∀ cs c σ, m__law_times cs ≠ .exc c σ := funSem0_noexc
/-! _law_less(one, other); slots 0:one 1:other -/
def b__law_less : S → Out := sRet (eOp2 gLt (eOp2 gMul (eOp2 gIx (eName 0) (eC (.int 0))) (eOp2 gIx (eName 1) (eC (.int 1)))) (eOp2 gMul (eOp2 gIx (eName 1) (eC (.int 0))) (eOp2 gIx (eName 0) (eC (.int 1)))))
def m__law_less : Meaning := funSem0 2 b__law_less
theorem ne__law_less : ∀ cs c σ, m__law_less cs ≠ .exc c σ := funSem0_noexc
/-! _law_sum(rows); slots 0:rows 1:found 2:one -/
def l__law_sum_1 : S → Out := sSet 1 (eCall m__law_plus (mVal (eName 1) (mVal (eName 2) (mNil))))
def b__law_sum : S → Out := sSeq (sSet 1 (eTup (aCons (eC (.int 0)) (aCons (eC (.int 1)) (aNil))))) (sSeq (sFor (iE (eName 0)) (gN 2) (l__law_sum_1)) (sRet (eName 1)))
def m__law_sum : Meaning := funSem0 3 b__law_sum
theorem ne__law_sum : ∀ cs c σ, m__law_sum cs ≠ .exc c σ := funSem0_noexc
/-! lowest(part, whole); slots 0:part 1:whole 2:common -/
def b_lowest : S → Out := sSeq (sSet 2 (eOp2 gGcd (eName 0) (eName 1))) (sSeq (sIf (tTru isBool (eOp2 gLt (eName 1) (eC (.int 0)))) (sSet 2 (eOp1 gNeg (eName 2))) (sNx)) (sRet (eTup (aCons (eOp2 gFdv (eName 0) (eName 2)) (aCons (eOp2 gFdv (eName 1) (eName 2)) (aNil))))))
def m_lowest : Meaning := funSem0 3 b_lowest
theorem ne_lowest : ∀ cs c σ, m_lowest cs ≠ .exc c σ := funSem0_noexc
/-! plus(one, other); slots 0:one 1:other -/
def b_plus : S → Out := sRet (eCall m_lowest (mVal (eOp2 gAdd (eOp2 gMul (eOp2 gIx (eName 0) (eC (.int 0))) (eOp2 gIx (eName 1) (eC (.int 1)))) (eOp2 gMul (eOp2 gIx (eName 1) (eC (.int 0))) (eOp2 gIx (eName 0) (eC (.int 1))))) (mVal (eOp2 gMul (eOp2 gIx (eName 0) (eC (.int 1))) (eOp2 gIx (eName 1) (eC (.int 1)))) (mNil))))
def m_plus : Meaning := funSem0 2 b_plus
theorem ne_plus : ∀ cs c σ, m_plus cs ≠ .exc c σ := funSem0_noexc
/-! minus(one, other); slots 0:one 1:other -/
def b_minus : S → Out := sRet (eCall m_lowest (mVal (eOp2 gSub (eOp2 gMul (eOp2 gIx (eName 0) (eC (.int 0))) (eOp2 gIx (eName 1) (eC (.int 1)))) (eOp2 gMul (eOp2 gIx (eName 1) (eC (.int 0))) (eOp2 gIx (eName 0) (eC (.int 1))))) (mVal (eOp2 gMul (eOp2 gIx (eName 0) (eC (.int 1))) (eOp2 gIx (eName 1) (eC (.int 1)))) (mNil))))
def m_minus : Meaning := funSem0 2 b_minus
theorem ne_minus : ∀ cs c σ, m_minus cs ≠ .exc c σ := funSem0_noexc
/-! times(one, other); slots 0:one 1:other -/
def b_times : S → Out := sRet (eCall m_lowest (mVal (eOp2 gMul (eOp2 gIx (eName 0) (eC (.int 0))) (eOp2 gIx (eName 1) (eC (.int 0)))) (mVal (eOp2 gMul (eOp2 gIx (eName 0) (eC (.int 1))) (eOp2 gIx (eName 1) (eC (.int 1)))) (mNil))))
def m_times : Meaning := funSem0 2 b_times
theorem ne_times : ∀ cs c σ, m_times cs ≠ .exc c σ := funSem0_noexc
/-! less(one, other); slots 0:one 1:other -/
def b_less : S → Out := sRet (eOp2 gLt (eOp2 gMul (eOp2 gIx (eName 0) (eC (.int 0))) (eOp2 gIx (eName 1) (eC (.int 1)))) (eOp2 gMul (eOp2 gIx (eName 1) (eC (.int 0))) (eOp2 gIx (eName 0) (eC (.int 1)))))
def m_less : Meaning := funSem0 2 b_less
theorem ne_less : ∀ cs c σ, m_less cs ≠ .exc c σ := funSem0_noexc
end
end FL.Com

set_option Elab.async false
set_option linter.all false
set_option maxRecDepth 100000
set_option maxHeartbeats 4000000
/-! FL: fractions: a over b in lowest terms, and the defs that reckon with them -/
namespace FL.Com
open PySem FL
abbrev I (i : Int) : Option C := some (.d (.int i))
/-- a over b in lowest terms -/
def lw (a b : Int) : D := .tuple [.int (a / (Int.gcd a b : Int)), .int (b / (Int.gcd a b : Int))]
theorem gcd_pos {a b : Int} (hb : 0 < b) : 0 < (Int.gcd a b : Int) := by
  have := Int.gcd_pos_of_ne_zero_right a (show b ≠ 0 by omega)
  omega
theorem lw_scale {k a b : Int} (hk : 0 < k) : lw (k * a) (k * b) = lw a b := by
  unfold lw
  rw [Int.gcd_mul_left]
  have : ((k.natAbs * Int.gcd a b : Nat) : Int) = k * (Int.gcd a b : Int) := by
    rw [Int.natCast_mul, Int.natAbs_of_nonneg (by omega)]
  rw [this, Int.mul_ediv_mul_of_pos _ _ hk, Int.mul_ediv_mul_of_pos _ _ hk]
theorem lw_parts {a b : Int} (hb : 0 < b) : ∃ p q g : Int, lw a b = .tuple [.int p, .int q] ∧ 0 < q ∧ 0 < g ∧ a = p * g ∧ b = q * g ∧ q ≤ b ∧ p.natAbs ≤ a.natAbs ∧ Int.gcd p q = 1 := by
  have hg := gcd_pos (a := a) hb
  obtain ⟨p, ep⟩ := Int.gcd_dvd_left (a := a) (b := b)
  obtain ⟨q, eq⟩ := Int.gcd_dvd_right (a := a) (b := b)
  generalize hG : (Int.gcd a b : Int) = g at hg ep eq
  have e1 : a / g = p := by rw [ep]; exact Int.mul_ediv_cancel_left _ (by omega)
  have e2 : b / g = q := by rw [eq]; exact Int.mul_ediv_cancel_left _ (by omega)
  have hq : 0 < q := by
    rcases Int.lt_or_le 0 q with h | h
    · exact h
    · have := Int.mul_nonpos_of_nonneg_of_nonpos (Int.le_of_lt hg) h
      omega
  refine ⟨p, q, g, ?_, hq, hg, by rw [ep, Int.mul_comm], by rw [eq, Int.mul_comm], ?_, ?_, ?_⟩
  · unfold lw
    rw [hG, e1, e2]
  · have := Int.mul_le_mul_of_nonneg_right (show 1 ≤ g by omega) (Int.le_of_lt hq)
    omega
  · rw [ep, Int.natAbs_mul]
    exact Nat.le_mul_of_pos_left _ (by omega)
  · have h1 : Int.gcd a b = Int.gcd (g * p) (g * q) := by rw [← ep, ← eq]
    rw [Int.gcd_mul_left] at h1
    have h2 : g.natAbs = Int.gcd a b := by omega
    have h3 : 0 < Int.gcd a b := by omega
    rw [h2] at h1
    exact Nat.eq_of_mul_eq_mul_left h3 (by rw [Nat.mul_one]; exact h1.symm)
/-- small enough to be reckoned with -/
def Z (n : Int) : Prop := n.natAbs < 2 ^ 2000
theorem Z.le {a b : Int} (h : Z b) (h2 : a.natAbs ≤ b.natAbs) : Z a := Nat.lt_of_le_of_lt h2 h
theorem divOk_big {i j : Int} {k : Nat} (h : 0 < j) (h2 : j.natAbs < 2 ^ k) (hk : k ≤ 9000) : divOk i j = true := by
  unfold divOk
  rw [decide_eq_true h, Bool.true_and, decide_eq_true_iff]
  have := (Nat.log2_lt (n := j.natAbs) (k := k) (by omega)).mpr h2
  omega
theorem mulOk_Z {a b : Int} (ha : Z a) (hb : Z b) : mulOk a b = true := mulOk_bits 2000 2000 ha hb (by decide)
theorem mul_Z2 {a b : Int} (ha : Z a) (hb : Z b) : (a * b).natAbs < 2 ^ 4000 := by
  rw [Int.natAbs_mul]
  have h1 : a.natAbs < 2 ^ 2000 := ha
  have h2 : b.natAbs < 2 ^ 2000 := hb
  calc a.natAbs * b.natAbs < 2 ^ 2000 * 2 ^ 2000 := Nat.mul_lt_mul'' h1 h2
    _ = 2 ^ 4000 := by rw [← Nat.pow_add]
theorem lowest_eq (a b : Int) (hb : 0 < b) (h64 : b.natAbs < 2 ^ 4000) : m_lowest [I a, I b] = .ok (.d (lw a b)) [none, none] := by
  have hg := gcd_pos (a := a) hb
  have hle : (Int.gcd a b : Int) ≤ b := Int.gcd_le_right (a := a) (b := b) hb
  have hz : (Int.gcd a b : Int).natAbs < 2 ^ 4000 := Nat.lt_of_le_of_lt (show (Int.gcd a b : Int).natAbs ≤ b.natAbs by omega) h64
  have d1 := divOk_big (i := a) hg hz (by decide)
  have d2 := divOk_big (i := b) hg hz (by decide)
  have hn : ¬ b < 0 := by omega
  have e : (Nat.gcd a.natAbs b.natAbs) = Int.gcd a b := rfl
  simp [m_lowest, b_lowest, e, hn, d1, d2, lw]
theorem gcd_mod {x y : Int} (hx : 0 ≤ x) (hy : 0 ≤ y) : Int.gcd y (x % y) = Int.gcd x y := by
  obtain ⟨m, rfl⟩ := Int.eq_ofNat_of_zero_le hx
  obtain ⟨n, rfl⟩ := Int.eq_ofNat_of_zero_le hy
  show Nat.gcd n (m % n) = Nat.gcd m n
  rw [Nat.gcd_comm n, Nat.gcd_comm m, ← Nat.gcd_rec]
theorem law_lowest_eq (a b : Int) (hb : 0 < b) (h64 : b.natAbs < 2 ^ 4000) : m__law_lowest [I a, I b] = .ok (.d (lw a b)) [none, none] := by
  obtain ⟨σ1, e1, h⟩ := while_run (T := w__law_lowest_1) (B := l__law_lowest_1) (fun σ => ∃ x y : Int, σ = [I a, I b, I x, I y] ∧ 0 ≤ x ∧ 0 ≤ y ∧ Int.gcd x y = Int.gcd a b) (fun σ => match σ with | [_, _, _, some (.d (.int y))] => y.toNat | _ => 0)
    (fun σ => σ = [I a, I b, I (Int.gcd a b : Int), I 0]) (fun σ ⟨x, y, hs, h1, h2, h3⟩ => by
      subst hs
      by_cases hy : 0 < y
      · refine .inr ⟨[I a, I b, I x, I y], by simp [w__law_lowest_1, hy], [I a, I b, I y, I (x % y)], .inl (by simp [l__law_lowest_1, hy]), ⟨y, x % y, rfl, h2, Int.emod_nonneg _ (by omega), ?_⟩, ?_⟩
        · rw [← h3]; exact gcd_mod h1 h2
        · show (x % y).toNat < y.toNat
          have := Int.emod_lt_of_pos x hy
          have := Int.emod_nonneg x (show y ≠ 0 by omega)
          omega
      · refine .inl ⟨[I a, I b, I x, I y], by simp [w__law_lowest_1, hy], ?_⟩
        have : y = 0 := by omega
        subst this
        rw [← h3, Int.gcd_zero_right, Int.natAbs_of_nonneg h1]) _ [I a, I b, I (if a < 0 then -a else a), I b] (Nat.le_refl _) ⟨_, _, rfl, by split <;> omega, by omega, by split <;> simp [Int.gcd]⟩
  subst h
  have hg := gcd_pos (a := a) hb
  have hle : (Int.gcd a b : Int) ≤ b := Int.gcd_le_right (a := a) (b := b) hb
  have hz : (Int.gcd a b : Int).natAbs < 2 ^ 4000 := Nat.lt_of_le_of_lt (show (Int.gcd a b : Int).natAbs ≤ b.natAbs by omega) h64
  have d1 := divOk_big (i := a) hg hz (by decide)
  have d2 := divOk_big (i := b) hg hz (by decide)
  have hn : ¬ b < 0 := by omega
  simp [m__law_lowest, b__law_lowest, e1, hn, d1, d2, lw]
/-! two fractions -/
theorem lw_eq {a D b E : Int} (hD : 0 < D) (hE : 0 < E) (h : a * E = b * D) : lw a D = lw b E := by
  rw [← lw_scale (k := E) (a := a) hE, ← lw_scale (k := D) (a := b) hD]
  rw [Int.mul_comm E a, h, Int.mul_comm b D, Int.mul_comm E D]
theorem lw_addG {a D b E p1 q1 g1 p2 q2 g2 : Int} (h1 : 0 < g1) (h2 : 0 < g2) (e1 : a = p1 * g1) (e2 : D = q1 * g1) (e3 : b = p2 * g2) (e4 : E = q2 * g2) : lw (p1 * q2 + p2 * q1) (q1 * q2) = lw (a * E + b * D) (D * E) := by
  rw [← lw_scale (k := g1 * g2) (Int.mul_pos h1 h2)]
  subst e1 e2 e3 e4
  congr 1 <;> grind
theorem lw_subG {a D b E p1 q1 g1 p2 q2 g2 : Int} (h1 : 0 < g1) (h2 : 0 < g2) (e1 : a = p1 * g1) (e2 : D = q1 * g1) (e3 : b = p2 * g2) (e4 : E = q2 * g2) : lw (p1 * q2 - p2 * q1) (q1 * q2) = lw (a * E - b * D) (D * E) := by
  rw [← lw_scale (k := g1 * g2) (Int.mul_pos h1 h2)]
  subst e1 e2 e3 e4
  congr 1 <;> grind
theorem lw_mulG {a D b E p1 q1 g1 p2 q2 g2 : Int} (h1 : 0 < g1) (h2 : 0 < g2) (e1 : a = p1 * g1) (e2 : D = q1 * g1) (e3 : b = p2 * g2) (e4 : E = q2 * g2) : lw (p1 * p2) (q1 * q2) = lw (a * b) (D * E) := by
  rw [← lw_scale (k := g1 * g2) (Int.mul_pos h1 h2)]
  subst e1 e2 e3 e4
  congr 1 <;> grind
theorem lw_ltG {a D b E p1 q1 g1 p2 q2 g2 : Int} (h1 : 0 < g1) (h2 : 0 < g2) (e1 : a = p1 * g1) (e2 : D = q1 * g1) (e3 : b = p2 * g2) (e4 : E = q2 * g2) : p1 * q2 < p2 * q1 ↔ a * E < b * D := by
  have hg := Int.mul_pos h1 h2
  have y1 : a * E = (g1 * g2) * (p1 * q2) := by rw [e1, e4]; grind
  have y2 : b * D = (g1 * g2) * (p2 * q1) := by rw [e3, e2]; grind
  rw [y1, y2, Int.mul_lt_mul_left hg]
section
variable {a D b E : Int} (hD : 0 < D) (hE : 0 < E) (za : Z a) (zD : Z D) (zb : Z b) (zE : Z E)
include hD hE za zD zb zE
theorem two_parts : ∃ p1 q1 g1 p2 q2 g2 : Int, lw a D = .tuple [.int p1, .int q1] ∧ lw b E = .tuple [.int p2, .int q2] ∧ 0 < g1 ∧ 0 < g2 ∧ a = p1 * g1 ∧ D = q1 * g1 ∧ b = p2 * g2 ∧ E = q2 * g2 ∧ 0 < q1 ∧ 0 < q2 ∧ mulOk p1 q2 = true ∧ mulOk p2 q1 = true ∧ mulOk q1 q2 = true ∧ mulOk p1 p2 = true ∧ (q1 * q2).natAbs < 2 ^ 4000 ∧ 0 < q1 * q2 := by
  obtain ⟨p1, q1, g1, e1, r1, k1, x1, y1, z1, w1, _⟩ := lw_parts (a := a) hD
  obtain ⟨p2, q2, g2, e2, r2, k2, x2, y2, z2, w2, _⟩ := lw_parts (a := b) hE
  have zp1 : Z p1 := za.le w1
  have zp2 : Z p2 := zb.le w2
  have zq1 : Z q1 := zD.le (by omega)
  have zq2 : Z q2 := zE.le (by omega)
  exact ⟨p1, q1, g1, p2, q2, g2, e1, e2, k1, k2, x1, y1, x2, y2, r1, r2, mulOk_Z zp1 zq2, mulOk_Z zp2 zq1, mulOk_Z zq1 zq2, mulOk_Z zp1 zp2, mul_Z2 zq1 zq2, Int.mul_pos r1 r2⟩
theorem plus_eq : m_plus [some (.d (lw a D)), some (.d (lw b E))] = .ok (.d (lw (a * E + b * D) (D * E))) [none, none] := by
  obtain ⟨p1, q1, g1, p2, q2, g2, e1, e2, k1, k2, x1, y1, x2, y2, r1, r2, m1, m2, m3, m4, s1, s2⟩ := two_parts hD hE za zD zb zE
  have := lowest_eq (p1 * q2 + p2 * q1) (q1 * q2) s2 s1
  rw [e1, e2]
  simp [m_plus, b_plus, m1, m2, m3, this, lw_addG k1 k2 x1 y1 x2 y2]
theorem law_plus_eq : m__law_plus [some (.d (lw a D)), some (.d (lw b E))] = .ok (.d (lw (a * E + b * D) (D * E))) [none, none] := by
  obtain ⟨p1, q1, g1, p2, q2, g2, e1, e2, k1, k2, x1, y1, x2, y2, r1, r2, m1, m2, m3, m4, s1, s2⟩ := two_parts hD hE za zD zb zE
  have := law_lowest_eq (p1 * q2 + p2 * q1) (q1 * q2) s2 s1
  rw [e1, e2]
  simp [m__law_plus, b__law_plus, m1, m2, m3, this, lw_addG k1 k2 x1 y1 x2 y2]
theorem minus_eq : m_minus [some (.d (lw a D)), some (.d (lw b E))] = .ok (.d (lw (a * E - b * D) (D * E))) [none, none] := by
  obtain ⟨p1, q1, g1, p2, q2, g2, e1, e2, k1, k2, x1, y1, x2, y2, r1, r2, m1, m2, m3, m4, s1, s2⟩ := two_parts hD hE za zD zb zE
  have := lowest_eq (p1 * q2 - p2 * q1) (q1 * q2) s2 s1
  rw [e1, e2]
  simp [m_minus, b_minus, m1, m2, m3, this, lw_subG k1 k2 x1 y1 x2 y2]
theorem times_eq : m_times [some (.d (lw a D)), some (.d (lw b E))] = .ok (.d (lw (a * b) (D * E))) [none, none] := by
  obtain ⟨p1, q1, g1, p2, q2, g2, e1, e2, k1, k2, x1, y1, x2, y2, r1, r2, m1, m2, m3, m4, s1, s2⟩ := two_parts hD hE za zD zb zE
  have := lowest_eq (p1 * p2) (q1 * q2) s2 s1
  rw [e1, e2]
  simp [m_times, b_times, m4, m3, this, lw_mulG k1 k2 x1 y1 x2 y2]
theorem law_times_eq : m__law_times [some (.d (lw a D)), some (.d (lw b E))] = .ok (.d (lw (a * b) (D * E))) [none, none] := by
  obtain ⟨p1, q1, g1, p2, q2, g2, e1, e2, k1, k2, x1, y1, x2, y2, r1, r2, m1, m2, m3, m4, s1, s2⟩ := two_parts hD hE za zD zb zE
  have := law_lowest_eq (p1 * p2) (q1 * q2) s2 s1
  rw [e1, e2]
  simp [m__law_times, b__law_times, m4, m3, this, lw_mulG k1 k2 x1 y1 x2 y2]
theorem less_eq : m_less [some (.d (lw a D)), some (.d (lw b E))] = .ok (.d (.bool (decide (a * E < b * D)))) [none, none] := by
  obtain ⟨p1, q1, g1, p2, q2, g2, e1, e2, k1, k2, x1, y1, x2, y2, r1, r2, m1, m2, m3, m4, s1, s2⟩ := two_parts hD hE za zD zb zE
  rw [e1, e2]
  simp [m_less, b_less, m1, m2, lw_ltG k1 k2 x1 y1 x2 y2]
theorem law_less_eq : m__law_less [some (.d (lw a D)), some (.d (lw b E))] = .ok (.d (.bool (decide (a * E < b * D)))) [none, none] := by
  obtain ⟨p1, q1, g1, p2, q2, g2, e1, e2, k1, k2, x1, y1, x2, y2, r1, r2, m1, m2, m3, m4, s1, s2⟩ := two_parts hD hE za zD zb zE
  rw [e1, e2]
  simp [m__law_less, b__law_less, m1, m2, lw_ltG k1 k2 x1 y1 x2 y2]
theorem law_minus_eq : m__law_minus [some (.d (lw a D)), some (.d (lw b E))] = .ok (.d (lw (a * E - b * D) (D * E))) [none, none] := by
  have e : ∃ x y : Int, lw b E = .tuple [.int x, .int y] ∧ lw (-b) E = .tuple [.int (-x), .int y] := by
    refine ⟨_, _, rfl, ?_⟩
    unfold lw
    rw [Int.neg_gcd]
    congr 2
    rw [Int.neg_ediv_of_dvd (Int.gcd_dvd_left ..)]
  obtain ⟨x, y, e1, e2⟩ := e
  have := law_plus_eq (a := a) (b := -b) hD hE za zD (by unfold Z at zb ⊢; omega) zE
  rw [e2] at this
  rw [e1]
  rw [show a * E - b * D = a * E + -b * D by rw [Int.neg_mul]; omega]
  generalize lw a D = u at this ⊢
  simp [m__law_minus, b__law_minus, this]
end
theorem lw_zero {D : Int} (hD : 0 < D) : lw 0 D = .tuple [.int 0, .int 1] := by
  unfold lw
  rw [Int.gcd_zero_left, Int.natAbs_of_nonneg (by omega), Int.ediv_self (by omega), Int.zero_ediv]
theorem lw_whole {D k : Int} (hD : 0 < D) : lw (k * D) D = .tuple [.int k, .int 1] := by
  have := lw_scale (k := D) (a := k) (b := 1) hD
  rw [Int.mul_one, Int.mul_comm] at this
  rw [this]
  unfold lw
  simp
theorem lw_one (k : Int) : lw k 1 = .tuple [.int k, .int 1] := by
  unfold lw
  simp
theorem sm_lw (a b : Int) (n : Nat) : Sm (n + 2) (lw a b) := .tuple _ _ (by simp) fun d hd => by
  simp only [List.mem_cons, List.not_mem_nil, or_false] at hd
  rcases hd with rfl | rfl <;> exact .int _ _
/-! over one denominator -/
section
variable {a D b : Int} (hD : 0 < D) (za : Z a) (zD : Z D) (zb : Z b)
include hD za zD zb
theorem same_add : lw (a * D + b * D) (D * D) = lw (a + b) D := by
  rw [← Int.add_mul, Int.mul_comm (a + b) D, lw_scale hD]
theorem plus_same : m_plus [some (.d (lw a D)), some (.d (lw b D))] = .ok (.d (lw (a + b) D)) [none, none] := by
  rw [plus_eq hD hD za zD zb zD, same_add hD za zD zb]
theorem law_plus_same : m__law_plus [some (.d (lw a D)), some (.d (lw b D))] = .ok (.d (lw (a + b) D)) [none, none] := by
  rw [law_plus_eq hD hD za zD zb zD, same_add hD za zD zb]
theorem minus_same : m_minus [some (.d (lw a D)), some (.d (lw b D))] = .ok (.d (lw (a - b) D)) [none, none] := by
  rw [minus_eq hD hD za zD zb zD, ← Int.sub_mul, Int.mul_comm (a - b) D, lw_scale hD]
theorem law_minus_same : m__law_minus [some (.d (lw a D)), some (.d (lw b D))] = .ok (.d (lw (a - b) D)) [none, none] := by
  rw [law_minus_eq hD hD za zD zb zD, ← Int.sub_mul, Int.mul_comm (a - b) D, lw_scale hD]
theorem less_same : m_less [some (.d (lw a D)), some (.d (lw b D))] = .ok (.d (.bool (decide (a < b)))) [none, none] := by
  rw [less_eq hD hD za zD zb zD, decide_eq_decide.mpr (Int.mul_lt_mul_right hD)]
theorem law_less_same : m__law_less [some (.d (lw a D)), some (.d (lw b D))] = .ok (.d (.bool (decide (a < b)))) [none, none] := by
  rw [law_less_eq hD hD za zD zb zD, decide_eq_decide.mpr (Int.mul_lt_mul_right hD)]
end
def fr (D : Int) (ns : List Int) : List FL.D := ns.map fun n => lw n D
/-- the sum of a row over one denominator -/
theorem law_sum_eq {D : Int} (hD : 0 < D) (zD : Z D) (ns : List Int) (hz : ∀ n ∈ ns, Z n) (hs : ∀ i, Z (ns.take i).sum) : m__law_sum [some (.d (.list (fr D ns)))] = .ok (.d (lw ns.sum D)) [none] := by
  obtain ⟨σ', e, c, fc, hs⟩ := for_run (g := gN 2) (B := l__law_sum_1) (ds := fr D ns) (σ := [some (.d (.list (fr D ns))), some (.d (lw 0 D)), none])
    (fun i σ => ∃ c, Fr c ∧ σ = [some (.d (.list (fr D ns))), some (.d (lw (ns.take i).sum D)), c])
    ⟨none, .none, by simp⟩ fun i d σ hd' ⟨c, fc, hs'⟩ => by
      subst hs'
      obtain ⟨hi, hd2⟩ := List.getElem?_eq_some_iff.mp hd'
      have hi' : i < ns.length := by simpa [fr] using hi
      have hdv : d = lw ns[i] D := by rw [← hd2]; simp [fr]
      subst hdv
      have et : ns.take (i + 1) = ns.take i ++ [ns[i]] := by rw [List.take_succ_eq_append_getElem hi']
      have es : (ns.take (i + 1)).sum = (ns.take i).sum + ns[i] := by rw [et, List.sum_append, List.sum_cons, List.sum_nil, Int.add_zero]
      have e0 := law_plus_same (a := (ns.take i).sum) (b := ns[i]) hD (hs i) zD (hz _ (List.getElem_mem hi'))
      refine ⟨[some (.d (.list (fr D ns))), some (.d (lw (ns.take i).sum D)), some (.d (lw ns[i] D))], by rcases fc with rfl | ⟨x, rfl⟩ <;> simp, [some (.d (.list (fr D ns))), some (.d (lw ((ns.take i).sum + ns[i]) D)), some (.d (lw ns[i] D))], .inl ?_, some (.d (lw ns[i] D)), Fr.d, by rw [es]⟩
      simp [l__law_sum_1, e0]
  subst hs
  rw [lw_zero hD] at e
  have hlen : (fr D ns).length = ns.length := by simp [fr]
  simp [m__law_sum, b__law_sum, e, hlen]
end FL.Com

set_option Elab.async false
set_option linter.all false
set_option maxRecDepth 100000
set_option maxHeartbeats 4000000
/-! law_k17_whole_bookings_beyond_rooms: what each def means -/
namespace K17
open PySem FL
abbrev t_InnError : List (Str × Bool) := [("InnError", true), ("OutOfRange", true)]
abbrev t_OutOfRange : List (Str × Bool) := [("InnError", false), ("OutOfRange", true)]

noncomputable section
/-! _law_draws(script); slots 0:script 1:draws 2:cell 3:number 4:first 5:k 6:seed -/
abbrev b__law_draws := Com.b__law_draws
abbrev m__law_draws := Com.m__law_draws
theorem ne__law_draws : ∀ cs c σ, m__law_draws cs ≠ .exc c σ := Com.ne__law_draws
/-! _law_take(draws, bound); slots 0:draws 1:bound -/
abbrev b__law_take := Com.b__law_take
abbrev m__law_take := Com.m__law_take
theorem ne__law_take : ∀ cs c σ, m__law_take cs ≠ .exc c σ := Com.ne__law_take
/-! _law_same(actual, due); slots 0:actual 1:due 2:k -/
abbrev b__law_same := Com.b__law_same
abbrev m__law_same := Com.m__law_same
theorem ne__law_same : ∀ n cs c σ, m__law_same n cs ≠ .exc c σ := Com.ne__law_same
/-! _law_lowest(part, whole); slots 0:part 1:whole 2:one 3:other -/
abbrev b__law_lowest := Com.b__law_lowest
abbrev m__law_lowest := Com.m__law_lowest
theorem ne__law_lowest : ∀ cs c σ, m__law_lowest cs ≠ .exc c σ := Com.ne__law_lowest
/-! _law_plus(one, other); slots 0:one 1:other -/
abbrev b__law_plus := Com.b__law_plus
abbrev m__law_plus := Com.m__law_plus
theorem ne__law_plus : ∀ cs c σ, m__law_plus cs ≠ .exc c σ := Com.ne__law_plus
/-! _law_minus(one, other); slots 0:one 1:other -/
abbrev b__law_minus := Com.b__law_minus
abbrev m__law_minus := Com.m__law_minus
theorem ne__law_minus : ∀ cs c σ, m__law_minus cs ≠ .exc c σ := Com.ne__law_minus
/-! _law_times(one, other); slots 0:one 1:other -/
abbrev b__law_times := Com.b__law_times
abbrev m__law_times := Com.m__law_times
theorem ne__law_times : ∀ cs c σ, m__law_times cs ≠ .exc c σ := Com.ne__law_times
/-! _law_less(one, other); slots 0:one 1:other -/
abbrev b__law_less := Com.b__law_less
abbrev m__law_less := Com.m__law_less
theorem ne__law_less : ∀ cs c σ, m__law_less cs ≠ .exc c σ := Com.ne__law_less
/-! _law_sum(rows); slots 0:rows 1:found 2:one -/
abbrev b__law_sum := Com.b__law_sum
abbrev m__law_sum := Com.m__law_sum
theorem ne__law_sum : ∀ cs c σ, m__law_sum cs ≠ .exc c σ := Com.ne__law_sum
/-! _law_share(draws); slots 0:draws 1:whole -/
def b__law_share : S → Out := sSeq (sSet 1 (eOp2 gAdd (eC (.int 1)) (eCall m__law_take (mMut (eName 0) (mVal (eOp2 gIx (eLst (aCons (eC (.int 1)) (aCons (eC (.int 4)) (aCons (eC (.int 20)) (aNil))))) (eCall m__law_take (mMut (eName 0) (mVal (eC (.int 3)) (mNil))))) (mNil)))))) (sRet (eCall m__law_lowest (mVal (eCall m__law_take (mMut (eName 0) (mVal (eOp2 gAdd (eName 1) (eC (.int 1))) (mNil)))) (mVal (eName 1) (mNil)))))
def m__law_share : Meaning := funSem0 2 b__law_share
theorem ne__law_share : ∀ cs c σ, m__law_share cs ≠ .exc c σ := funSem0_noexc
/-! is_number(value, least, most); slots 0:value 1:least 2:most -/
abbrev b_is_number := Com.b_is_number
abbrev m_is_number := Com.m_is_number
theorem ne_is_number : ∀ cs c σ, m_is_number cs ≠ .exc c σ := Com.ne_is_number
/-! lowest(part, whole); slots 0:part 1:whole 2:common -/
abbrev b_lowest := Com.b_lowest
abbrev m_lowest := Com.m_lowest
theorem ne_lowest : ∀ cs c σ, m_lowest cs ≠ .exc c σ := Com.ne_lowest
/-! plus(one, other); slots 0:one 1:other -/
abbrev b_plus := Com.b_plus
abbrev m_plus := Com.m_plus
theorem ne_plus : ∀ cs c σ, m_plus cs ≠ .exc c σ := Com.ne_plus
/-! see_rooms(rooms); slots 0:rooms -/
def b_see_rooms : S → Out := sIf (tNotF (tTru truth (eCall m_is_number (mVal (eName 0) (mVal (eC (.int 1)) (mVal (eC (.int 20)) (mNil))))))) (sExc "OutOfRange") (sNx)
def m_see_rooms : Meaning := funSemX 1 b_see_rooms
/-! minus(one, other); slots 0:one 1:other -/
abbrev b_minus := Com.b_minus
abbrev m_minus := Com.m_minus
theorem ne_minus : ∀ cs c σ, m_minus cs ≠ .exc c σ := Com.ne_minus
/-! times(one, other); slots 0:one 1:other -/
abbrev b_times := Com.b_times
abbrev m_times := Com.m_times
theorem ne_times : ∀ cs c σ, m_times cs ≠ .exc c σ := Com.ne_times
/-! more_guests(chances, chance); slots 0:chances 1:chance 2:stay 3:come 4:one 5:other -/
def e_more_guests_1 : S → Res R := eCall m_times (mVal (eName 4) (mVal (eCall m_minus (mVal (eC (.tuple [.int 1, .int 1])) (mVal (eName 1) (mNil)))) (mNil)))
def e_more_guests_2 : S → Res R := eCall m_times (mVal (eName 4) (mVal (eName 1) (mNil)))
def e_more_guests_3 : S → Res R := eCall m_plus (mVal (eName 4) (mVal (eName 5) (mNil)))
def b_more_guests : S → Out := sSeq (sSet 2 (eLc [4] (iE (eName 0)) (gN 4) (tT) (e_more_guests_1))) (sSeq (sSet 3 (eLc [4] (iE (eName 0)) (gN 4) (tT) (e_more_guests_2))) (sRet (eLc [4, 5] (iZipr (aCons (eLst (aStar (eName 2) (aCons (eC (.tuple [.int 0, .int 1])) (aNil)))) (aCons (eLst (aCons (eC (.tuple [.int 0, .int 1])) (aStar (eName 3) (aNil)))) (aNil)))) (gT (gN 4 :: [gN 5])) (tT) (e_more_guests_3))))
def m_more_guests : Meaning := funSem0 6 b_more_guests
theorem ne_more_guests : ∀ cs c σ, m_more_guests cs ≠ .exc c σ := funSem0_noexc
/-! added_by(rooms, chances, chance, pay, cost); slots 0:rooms 1:chances 2:chance 3:pay 4:cost 5:full 6:one -/
def l_added_by_1 : S → Out := sSet 5 (eCall m_plus (mVal (eName 5) (mVal (eName 6) (mNil))))
def b_added_by : S → Out := sSeq (sSet 5 (eC (.tuple [.int 0, .int 1]))) (sSeq (sFor (iE (eSl (eName 1) (oAt (eName 0)) (oNo))) (gN 6) (l_added_by_1)) (sRet (eCall m_times (mVal (eName 2) (mVal (eCall m_minus (mVal (eCall m_times (mVal (eTup (aCons (eName 3) (aCons (eC (.int 1)) (aNil)))) (mVal (eCall m_minus (mVal (eC (.tuple [.int 1, .int 1])) (mVal (eName 5) (mNil)))) (mNil)))) (mVal (eCall m_times (mVal (eTup (aCons (eName 4) (aCons (eC (.int 1)) (aNil)))) (mVal (eName 5) (mNil)))) (mNil)))) (mNil))))))
def m_added_by : Meaning := funSem0 7 b_added_by
theorem ne_added_by : ∀ cs c σ, m_added_by cs ≠ .exc c σ := funSem0_noexc
/-! gain_of(rooms, m, chance, pay, cost); slots 0:rooms 1:m 2:chance 3:pay 4:cost 5:chances 6:found 7:_ -/
def l_gain_of_1 : S → Out := sSeq (sSet 6 (eCall m_plus (mVal (eName 6) (mVal (eCall m_added_by (mVal (eName 0) (mVal (eName 5) (mVal (eName 2) (mVal (eName 3) (mVal (eName 4) (mNil))))))) (mNil))))) (sSet 5 (eCall m_more_guests (mVal (eName 5) (mVal (eName 2) (mNil)))))
def b_gain_of : S → Out := sSeq (sDrop (eCall m_see_rooms (mVal (eName 0) (mNil)))) (sSeq (sIf (tNotF (tTru truth (eCall m_is_number (mVal (eName 1) (mVal (eC (.int 0)) (mVal (eC (.int 40)) (mNil))))))) (sExc "OutOfRange") (sNx)) (sSeq (sPar [5, 6] (rCons (eLst (aCons (eC (.tuple [.int 1, .int 1])) (aNil))) (rCons (eC (.tuple [.int 0, .int 1])) (rNil)))) (sSeq (sFor (iRange1 (aCons (eName 1) (aNil))) (gN 7) (l_gain_of_1)) (sRet (eName 6)))))
def m_gain_of : Meaning := funSemX 8 b_gain_of
/-! less(one, other); slots 0:one 1:other -/
abbrev b_less := Com.b_less
abbrev m_less := Com.m_less
theorem ne_less : ∀ cs c σ, m_less cs ≠ .exc c σ := Com.ne_less
/-! best_bookings(rooms, chance, pay, cost); slots 0:rooms 1:chance 2:pay 3:cost 4:chances 5:m -/
def l_best_bookings_1 : S → Out := sSeq (sIf (tNotF (tTru truth (eCall m_less (mVal (eC (.tuple [.int 0, .int 1])) (mVal (eCall m_added_by (mVal (eName 0) (mVal (eName 4) (mVal (eName 1) (mVal (eName 2) (mVal (eName 3) (mNil))))))) (mNil)))))) (sRet (eName 5)) (sNx)) (sSet 4 (eCall m_more_guests (mVal (eName 4) (mVal (eName 1) (mNil)))))
def b_best_bookings : S → Out := sSeq (sDrop (eCall m_see_rooms (mVal (eName 0) (mNil)))) (sSeq (sSet 4 (eLst (aCons (eC (.tuple [.int 1, .int 1])) (aNil)))) (sSeq (sFor (iRange1 (aCons (eC (.int 40)) (aNil))) (gN 5) (l_best_bookings_1)) (sRet (eC (.int 40)))))
def m_best_bookings : Meaning := funSemX 6 b_best_bookings
/-! _law_told(which, rooms, m, chance, pay, cost); slots 0:which 1:rooms 2:m 3:chance 4:pay 5:cost 6:e -/
def y__law_told_1 : S → Out := sSeq (sIf (tTru isBool (eOp2 gEq (eName 0) (eC (.int 0)))) (sRet (eCall m_gain_of (mVal (eName 1) (mVal (eName 2) (mVal (eName 3) (mVal (eName 4) (mVal (eName 5) (mNil)))))))) (sNx)) (sRet (eCall m_best_bookings (mVal (eName 1) (mVal (eName 3) (mVal (eName 4) (mVal (eName 5) (mNil)))))))
def h__law_told_1 : S → Out := sRet (eOp2 gIx (eLst (aCons (eC (.str "other")) (aCons (eC (.str "range")) (aNil)))) (eOp1 gToInt (eOp1 (gIsE t_OutOfRange) (eName 6))))
def b__law_told : S → Out := sTry t_InnError 6 (y__law_told_1) (h__law_told_1)
def m__law_told : Meaning := funSem0 7 b__law_told
theorem ne__law_told : ∀ cs c σ, m__law_told cs ≠ .exc c σ := funSem0_noexc
/-! _law_counts(chance, many); slots 0:chance 1:many 2:rest 3:rows 4:ways 5:power 6:k -/
def l__law_counts_1 : S → Out := sSeq (sDrop (eMut gAppend (eName 3) (aCons (eCall m__law_times (mVal (eTup (aCons (eName 4) (aCons (eC (.int 1)) (aNil)))) (mVal (eName 5) (mNil)))) (aNil)))) (sPar [5, 4] (rCons (eCall m__law_times (mVal (eName 5) (mVal (eName 0) (mNil)))) (rCons (eOp2 gFdv (eOp2 gMul (eName 4) (eOp2 gSub (eName 1) (eName 6))) (eOp2 gAdd (eName 6) (eC (.int 1)))) (rNil))))
def l__law_counts_2 : S → Out := sUnp (gT (gIxT 3 (eName 6) :: [gN 5])) (eTup (aCons (eCall m__law_times (mVal (eOp2 gIx (eName 3) (eName 6)) (mVal (eName 5) (mNil)))) (aCons (eCall m__law_times (mVal (eName 5) (mVal (eName 2) (mNil)))) (aNil))))
def b__law_counts : S → Out := sSeq (sPar [2, 3, 4, 5] (rCons (eCall m__law_minus (mVal (eTup (aCons (eC (.int 1)) (aCons (eC (.int 1)) (aNil)))) (mVal (eName 0) (mNil)))) (rCons (eLst (aNil)) (rCons (eC (.int 1)) (rCons (eTup (aCons (eC (.int 1)) (aCons (eC (.int 1)) (aNil)))) (rNil)))))) (sSeq (sFor (iRange1 (aCons (eOp2 gAdd (eName 1) (eC (.int 1))) (aNil))) (gN 6) (l__law_counts_1)) (sSeq (sSet 5 (eTup (aCons (eC (.int 1)) (aCons (eC (.int 1)) (aNil))))) (sSeq (sFor (iRange3 (aCons (eName 1) (aCons (eOp1 gNeg (eC (.int 1))) (aCons (eOp1 gNeg (eC (.int 1))) (aNil))))) (gN 6) (l__law_counts_2)) (sRet (eName 3)))))
def m__law_counts : Meaning := funSem0 7 b__law_counts
theorem ne__law_counts : ∀ cs c σ, m__law_counts cs ≠ .exc c σ := funSem0_noexc
/-! law(script); slots 0:script 1:draws 2:rooms 3:chance 4:pay 5:cost 6:gains 7:adds 8:m 9:full 10:parts 11:due 12:best 13:k 14:which 15:one -/
def l_law_1 : S → Out := sSeq (sSet 9 (eCall m__law_sum (mVal (eSl (eCall m__law_counts (mVal (eName 3) (mVal (eName 8) (mNil)))) (oAt (eName 2)) (oNo)) (mNil)))) (sSeq (sDrop (eMut gAppend (eName 7) (aCons (eCall m__law_times (mVal (eName 3) (mVal (eCall m__law_minus (mVal (eCall m__law_times (mVal (eTup (aCons (eName 4) (aCons (eC (.int 1)) (aNil)))) (mVal (eCall m__law_minus (mVal (eTup (aCons (eC (.int 1)) (aCons (eC (.int 1)) (aNil)))) (mVal (eName 9) (mNil)))) (mNil)))) (mVal (eCall m__law_times (mVal (eTup (aCons (eName 5) (aCons (eC (.int 1)) (aNil)))) (mVal (eName 9) (mNil)))) (mNil)))) (mNil)))) (aNil)))) (sDrop (eMut gAppend (eName 6) (aCons (eCall m__law_plus (mVal (eOp2 gIx (eName 6) (eOp1 gNeg (eC (.int 1)))) (mVal (eOp2 gIx (eName 7) (eOp1 gNeg (eC (.int 1)))) (mNil)))) (aNil)))))
def e_law_1 : S → Res R := eCall m__law_times (mVal (eTup (aCons (eOp2 gSub (eOp2 gMul (eName 4) (eOp2 gMin2 (eName 13) (eName 2))) (eOp2 gMul (eName 5) (eOp2 gMax2 (eC (.int 0)) (eOp2 gSub (eName 13) (eName 2))))) (aCons (eC (.int 1)) (aNil)))) (mVal (eOp2 gIx (eName 10) (eName 13)) (mNil)))
def l_law_2 : S → Out := sSeq (sSet 10 (eCall m__law_counts (mVal (eName 3) (mVal (eName 8) (mNil))))) (sSeq (sSet 11 (eCall m__law_sum (mVal (eLc [13] (iRange1 (aCons (eOp2 gAdd (eName 8) (eC (.int 1))) (aNil))) (gN 13) (tT) (e_law_1)) (mNil)))) (sIf (tOrF (tNotF (tTru truth (eCall (m__law_same 8) (mVal (eCall m__law_told (mVal (eC (.int 0)) (mVal (eName 2) (mVal (eName 8) (mVal (eName 3) (mVal (eName 4) (mVal (eName 5) (mNil)))))))) (mVal (eName 11) (mNil)))))) (tTru isBool (eOp2 gNe (eName 11) (eOp2 gIx (eName 6) (eName 8))))) (sRet (eC (.bool false))) (sNx)))
def l_law_3 : S → Out := sSet 12 (eIf (tTru truth (eCall m__law_less (mVal (eOp2 gIx (eName 6) (eName 12)) (mVal (eOp2 gIx (eName 6) (eName 8)) (mNil))))) (eName 8) (eName 12))
def t_law_1 : S → Res Bool := tTru truth (eCall m__law_less (mVal (eOp2 gIx (eName 7) (eOp2 gSub (eName 8) (eC (.int 1)))) (mVal (eOp2 gIx (eName 7) (eName 8)) (mNil))))
def e_law_2 : S → Res R := eName 8
def t_law_2 : S → Res Bool := tNotF (tTru truth (eCall m__law_less (mVal (eTup (aCons (eC (.int 0)) (aCons (eC (.int 1)) (aNil)))) (mVal (eOp2 gIx (eName 7) (eName 8)) (mNil)))))
def e_law_3 : S → Res R := eName 8
def e_law_4 : S → Res R := eCall m__law_told (mVal (eName 14) (mVal (eName 15) (mVal (eC (.int 5)) (mVal (eName 3) (mVal (eName 4) (mVal (eName 5) (mNil)))))))
def e_law_5 : S → Res R := eCall m__law_told (mVal (eC (.int 0)) (mVal (eName 2) (mVal (eName 8) (mVal (eName 3) (mVal (eName 4) (mVal (eName 5) (mNil)))))))
def b_law : S → Out := sSeq (sSet 1 (eCall m__law_draws (mVal (eName 0) (mNil)))) (sSeq (sPar [2, 3] (rCons (eOp2 gAdd (eC (.int 1)) (eCall m__law_take (mMut (eName 1) (mVal (eOp2 gIx (eLst (aCons (eC (.int 4)) (aCons (eC (.int 20)) (aNil)))) (eOp1 gToInt (eOp2 gEq (eCall m__law_take (mMut (eName 1) (mVal (eC (.int 4)) (mNil)))) (eC (.int 0))))) (mNil))))) (rCons (eCall m__law_share (mMut (eName 1) (mNil))) (rNil)))) (sSeq (sPar [4, 5] (rCons (eCall m__law_take (mMut (eName 1) (mVal (eOp2 gIx (eLst (aCons (eC (.int 6)) (aCons (eC (.int 101)) (aNil)))) (eCall m__law_take (mMut (eName 1) (mVal (eC (.int 2)) (mNil))))) (mNil)))) (rCons (eCall m__law_take (mMut (eName 1) (mVal (eOp2 gIx (eLst (aCons (eC (.int 6)) (aCons (eC (.int 101)) (aNil)))) (eCall m__law_take (mMut (eName 1) (mVal (eC (.int 2)) (mNil))))) (mNil)))) (rNil)))) (sSeq (sPar [6, 7] (rCons (eLst (aCons (eTup (aCons (eC (.int 0)) (aCons (eC (.int 1)) (aNil)))) (aNil))) (rCons (eLst (aNil)) (rNil)))) (sSeq (sFor (iRange1 (aCons (eC (.int 40)) (aNil))) (gN 8) (l_law_1)) (sSeq (sFor (iE (eLst (aCons (eC (.int 0)) (aCons (eC (.int 1)) (aCons (eName 2) (aCons (eCall m__law_take (mMut (eName 1) (mVal (eC (.int 13)) (mNil)))) (aCons (eOp2 gIx (eLst (aCons (eCall m__law_take (mMut (eName 1) (mVal (eC (.int 41)) (mNil)))) (aCons (eC (.int 40)) (aNil)))) (eOp1 gToInt (eOp2 gEq (eCall m__law_take (mMut (eName 1) (mVal (eC (.int 5)) (mNil)))) (eC (.int 0))))) (aNil)))))))) (gN 8) (l_law_2)) (sSeq (sSet 12 (eC (.int 0))) (sSeq (sFor (iRange1 (aCons (eC (.int 41)) (aNil))) (gN 8) (l_law_3)) (sSeq (sIf (tOrF (tNotF (tTru truth (eCall (m__law_same 8) (mVal (eCall m__law_told (mVal (eC (.int 1)) (mVal (eName 2) (mVal (eC (.int 0)) (mVal (eName 3) (mVal (eName 4) (mVal (eName 5) (mNil)))))))) (mVal (eName 12) (mNil)))))) (tTru isBool (eOp2 gNe (eLc [8] (iRange2 (aCons (eC (.int 1)) (aCons (eC (.int 40)) (aNil)))) (gN 8) (t_law_1) (e_law_2)) (eLst (aNil))))) (sRet (eC (.bool false))) (sNx)) (sSeq (sIf (tTru isBool (eOp2 gNe (eName 12) (eOp2 gIx (eOp2 gAdd (eLc [8] (iRange1 (aCons (eC (.int 40)) (aNil))) (gN 8) (t_law_2) (e_law_3)) (eLst (aCons (eC (.int 40)) (aNil)))) (eC (.int 0))))) (sRet (eC (.bool false))) (sNx)) (sSeq (sIf (tTru isBool (eOp2 gNe (eLc [14, 15] (iE (eLst (aCons (eTup (aCons (eC (.int 0)) (aCons (eC (.int 0)) (aNil)))) (aCons (eTup (aCons (eC (.int 0)) (aCons (eC (.int 21)) (aNil)))) (aCons (eTup (aCons (eC (.int 1)) (aCons (eC (.int 0)) (aNil)))) (aCons (eTup (aCons (eC (.int 1)) (aCons (eC (.int 21)) (aNil)))) (aNil))))))) (gT (gN 14 :: [gN 15])) (tT) (e_law_4)) (eOp2 gMul (eLst (aCons (eC (.str "range")) (aNil))) (eC (.int 4))))) (sRet (eC (.bool false))) (sNx)) (sRet (eOp2 gEq (eLc [8] (iE (eLst (aCons (eOp1 gNeg (eC (.int 1))) (aCons (eC (.int 41)) (aNil))))) (gN 8) (tT) (e_law_5)) (eOp2 gMul (eLst (aCons (eC (.str "range")) (aNil))) (eC (.int 2)))))))))))))))
def m_law : Meaning := funSem0 16 b_law
theorem ne_law : ∀ cs c σ, m_law cs ≠ .exc c σ := funSem0_noexc
end
end K17

set_option Elab.async false
set_option linter.all false
set_option maxRecDepth 100000
set_option maxHeartbeats 4000000
/-! law_k17_whole_bookings_beyond_rooms: that each def does what it means -/
namespace K17
open PySem PySem.Spec PyProof.Rows L2 FL
def topS (i : Nat) : Stmt := PySem.Challenge.pw_guestsheld_k17_whole_bookings_beyond_roo.main.body.getD i (.Pass ⟨0, 0, 0, 0⟩)
abbrev s__law_draws : Stmt := topS 23
abbrev ns__law_draws : List Str := ["script", "draws", "cell", "number", "first", "k", "seed"]
theorem sc__law_draws : FnScope ns__law_draws ["script"] (defScope s__law_draws) := ⟨rfl, rfl, rfl, by decide +kernel, rfl, by decide +kernel, by decide +kernel⟩
abbrev s__law_take : Stmt := topS 24
abbrev ns__law_take : List Str := ["draws", "bound"]
theorem sc__law_take : FnScope ns__law_take ["draws", "bound"] (defScope s__law_take) := ⟨rfl, rfl, rfl, by decide +kernel, rfl, by decide +kernel, by decide +kernel⟩
abbrev s__law_same : Stmt := topS 25
abbrev ns__law_same : List Str := ["actual", "due", "k"]
theorem sc__law_same : FnScope ns__law_same ["actual", "due"] (defScope s__law_same) := ⟨rfl, rfl, rfl, by decide +kernel, rfl, by decide +kernel, by decide +kernel⟩
abbrev s__law_lowest : Stmt := topS 26
abbrev ns__law_lowest : List Str := ["part", "whole", "one", "other"]
theorem sc__law_lowest : FnScope ns__law_lowest ["part", "whole"] (defScope s__law_lowest) := ⟨rfl, rfl, rfl, by decide +kernel, rfl, by decide +kernel, by decide +kernel⟩
abbrev s__law_plus : Stmt := topS 27
abbrev ns__law_plus : List Str := ["one", "other"]
theorem sc__law_plus : FnScope ns__law_plus ["one", "other"] (defScope s__law_plus) := ⟨rfl, rfl, rfl, by decide +kernel, rfl, by decide +kernel, by decide +kernel⟩
abbrev s__law_minus : Stmt := topS 28
abbrev ns__law_minus : List Str := ["one", "other"]
theorem sc__law_minus : FnScope ns__law_minus ["one", "other"] (defScope s__law_minus) := ⟨rfl, rfl, rfl, by decide +kernel, rfl, by decide +kernel, by decide +kernel⟩
abbrev s__law_times : Stmt := topS 29
abbrev ns__law_times : List Str := ["one", "other"]
theorem sc__law_times : FnScope ns__law_times ["one", "other"] (defScope s__law_times) := ⟨rfl, rfl, rfl, by decide +kernel, rfl, by decide +kernel, by decide +kernel⟩
abbrev s__law_less : Stmt := topS 30
abbrev ns__law_less : List Str := ["one", "other"]
theorem sc__law_less : FnScope ns__law_less ["one", "other"] (defScope s__law_less) := ⟨rfl, rfl, rfl, by decide +kernel, rfl, by decide +kernel, by decide +kernel⟩
abbrev s__law_sum : Stmt := topS 31
abbrev ns__law_sum : List Str := ["rows", "found", "one"]
theorem sc__law_sum : FnScope ns__law_sum ["rows"] (defScope s__law_sum) := ⟨rfl, rfl, rfl, by decide +kernel, rfl, by decide +kernel, by decide +kernel⟩
abbrev s__law_share : Stmt := topS 32
abbrev ns__law_share : List Str := ["draws", "whole"]
theorem sc__law_share : FnScope ns__law_share ["draws"] (defScope s__law_share) := ⟨rfl, rfl, rfl, by decide +kernel, rfl, by decide +kernel, by decide +kernel⟩
abbrev s_is_number : Stmt := topS 5
abbrev ns_is_number : List Str := ["value", "least", "most"]
theorem sc_is_number : FnScope ns_is_number ["value", "least", "most"] (defScope s_is_number) := ⟨rfl, rfl, rfl, by decide +kernel, rfl, by decide +kernel, by decide +kernel⟩
abbrev s_lowest : Stmt := topS 7
abbrev ns_lowest : List Str := ["part", "whole", "common"]
theorem sc_lowest : FnScope ns_lowest ["part", "whole"] (defScope s_lowest) := ⟨rfl, rfl, rfl, by decide +kernel, rfl, by decide +kernel, by decide +kernel⟩
abbrev s_plus : Stmt := topS 8
abbrev ns_plus : List Str := ["one", "other"]
theorem sc_plus : FnScope ns_plus ["one", "other"] (defScope s_plus) := ⟨rfl, rfl, rfl, by decide +kernel, rfl, by decide +kernel, by decide +kernel⟩
abbrev s_see_rooms : Stmt := topS 17
abbrev ns_see_rooms : List Str := ["rooms"]
theorem sc_see_rooms : FnScope ns_see_rooms ["rooms"] (defScope s_see_rooms) := ⟨rfl, rfl, rfl, by decide +kernel, rfl, by decide +kernel, by decide +kernel⟩
abbrev s_minus : Stmt := topS 9
abbrev ns_minus : List Str := ["one", "other"]
theorem sc_minus : FnScope ns_minus ["one", "other"] (defScope s_minus) := ⟨rfl, rfl, rfl, by decide +kernel, rfl, by decide +kernel, by decide +kernel⟩
abbrev s_times : Stmt := topS 10
abbrev ns_times : List Str := ["one", "other"]
theorem sc_times : FnScope ns_times ["one", "other"] (defScope s_times) := ⟨rfl, rfl, rfl, by decide +kernel, rfl, by decide +kernel, by decide +kernel⟩
abbrev s_more_guests : Stmt := topS 18
abbrev ns_more_guests : List Str := ["chances", "chance", "stay", "come", "one", "other"]
theorem sc_more_guests : FnScope ns_more_guests ["chances", "chance"] (defScope s_more_guests) := ⟨rfl, rfl, rfl, by decide +kernel, rfl, by decide +kernel, by decide +kernel⟩
abbrev s_added_by : Stmt := topS 19
abbrev ns_added_by : List Str := ["rooms", "chances", "chance", "pay", "cost", "full", "one"]
theorem sc_added_by : FnScope ns_added_by ["rooms", "chances", "chance", "pay", "cost"] (defScope s_added_by) := ⟨rfl, rfl, rfl, by decide +kernel, rfl, by decide +kernel, by decide +kernel⟩
abbrev s_gain_of : Stmt := topS 20
abbrev ns_gain_of : List Str := ["rooms", "m", "chance", "pay", "cost", "chances", "found", "_"]
theorem sc_gain_of : FnScope ns_gain_of ["rooms", "m", "chance", "pay", "cost"] (defScope s_gain_of) := ⟨rfl, rfl, rfl, by decide +kernel, rfl, by decide +kernel, by decide +kernel⟩
abbrev s_less : Stmt := topS 11
abbrev ns_less : List Str := ["one", "other"]
theorem sc_less : FnScope ns_less ["one", "other"] (defScope s_less) := ⟨rfl, rfl, rfl, by decide +kernel, rfl, by decide +kernel, by decide +kernel⟩
abbrev s_best_bookings : Stmt := topS 21
abbrev ns_best_bookings : List Str := ["rooms", "chance", "pay", "cost", "chances", "m"]
theorem sc_best_bookings : FnScope ns_best_bookings ["rooms", "chance", "pay", "cost"] (defScope s_best_bookings) := ⟨rfl, rfl, rfl, by decide +kernel, rfl, by decide +kernel, by decide +kernel⟩
abbrev s__law_told : Stmt := topS 33
abbrev ns__law_told : List Str := ["which", "rooms", "m", "chance", "pay", "cost", "e"]
theorem sc__law_told : FnScope ns__law_told ["which", "rooms", "m", "chance", "pay", "cost"] (defScope s__law_told) := ⟨rfl, rfl, rfl, by decide +kernel, rfl, by decide +kernel, by decide +kernel⟩
abbrev s__law_counts : Stmt := topS 34
abbrev ns__law_counts : List Str := ["chance", "many", "rest", "rows", "ways", "power", "k"]
theorem sc__law_counts : FnScope ns__law_counts ["chance", "many"] (defScope s__law_counts) := ⟨rfl, rfl, rfl, by decide +kernel, rfl, by decide +kernel, by decide +kernel⟩
abbrev s_law : Stmt := topS 35
abbrev ns_law : List Str := ["script", "draws", "rooms", "chance", "pay", "cost", "gains", "adds", "m", "full", "parts", "due", "best", "k", "which", "one"]
theorem sc_law : FnScope ns_law ["script"] (defScope s_law) := ⟨rfl, rfl, rfl, by decide +kernel, rfl, by decide +kernel, by decide +kernel⟩
abbrev FnP (K : PySem.W.Frag) (x : Str) (st : Stmt) (f : Addr) (fd : FuncData) : Prop := FunD K x x (defArgs st) (defBody st) (defScope st) [] [] f fd
structure Fx (K : PySem.W.Frag) (mg : Str → Option Value) where
  a__law_draws : Addr
  d__law_draws : FuncData
  F__law_draws : FnP K "_law_draws" s__law_draws a__law_draws d__law_draws
  g__law_draws : mg "_law_draws" = some (.ref a__law_draws)
  b__law_draws : Binds K d__law_draws ["script"] []
  T__law_draws : ∃ c T, d__law_draws.code = .ref c ∧ (c, T) ∈ tabs K
  a__law_take : Addr
  d__law_take : FuncData
  F__law_take : FnP K "_law_take" s__law_take a__law_take d__law_take
  g__law_take : mg "_law_take" = some (.ref a__law_take)
  b__law_take : Binds K d__law_take ["draws", "bound"] []
  T__law_take : ∃ c T, d__law_take.code = .ref c ∧ (c, T) ∈ tabs K
  a__law_same : Addr
  d__law_same : FuncData
  F__law_same : FnP K "_law_same" s__law_same a__law_same d__law_same
  g__law_same : mg "_law_same" = some (.ref a__law_same)
  b__law_same : Binds K d__law_same ["actual", "due"] []
  T__law_same : ∃ c T, d__law_same.code = .ref c ∧ (c, T) ∈ tabs K
  a__law_lowest : Addr
  d__law_lowest : FuncData
  F__law_lowest : FnP K "_law_lowest" s__law_lowest a__law_lowest d__law_lowest
  g__law_lowest : mg "_law_lowest" = some (.ref a__law_lowest)
  b__law_lowest : Binds K d__law_lowest ["part", "whole"] []
  T__law_lowest : ∃ c T, d__law_lowest.code = .ref c ∧ (c, T) ∈ tabs K
  a__law_plus : Addr
  d__law_plus : FuncData
  F__law_plus : FnP K "_law_plus" s__law_plus a__law_plus d__law_plus
  g__law_plus : mg "_law_plus" = some (.ref a__law_plus)
  b__law_plus : Binds K d__law_plus ["one", "other"] []
  T__law_plus : ∃ c T, d__law_plus.code = .ref c ∧ (c, T) ∈ tabs K
  a__law_minus : Addr
  d__law_minus : FuncData
  F__law_minus : FnP K "_law_minus" s__law_minus a__law_minus d__law_minus
  g__law_minus : mg "_law_minus" = some (.ref a__law_minus)
  b__law_minus : Binds K d__law_minus ["one", "other"] []
  T__law_minus : ∃ c T, d__law_minus.code = .ref c ∧ (c, T) ∈ tabs K
  a__law_times : Addr
  d__law_times : FuncData
  F__law_times : FnP K "_law_times" s__law_times a__law_times d__law_times
  g__law_times : mg "_law_times" = some (.ref a__law_times)
  b__law_times : Binds K d__law_times ["one", "other"] []
  T__law_times : ∃ c T, d__law_times.code = .ref c ∧ (c, T) ∈ tabs K
  a__law_less : Addr
  d__law_less : FuncData
  F__law_less : FnP K "_law_less" s__law_less a__law_less d__law_less
  g__law_less : mg "_law_less" = some (.ref a__law_less)
  b__law_less : Binds K d__law_less ["one", "other"] []
  T__law_less : ∃ c T, d__law_less.code = .ref c ∧ (c, T) ∈ tabs K
  a__law_sum : Addr
  d__law_sum : FuncData
  F__law_sum : FnP K "_law_sum" s__law_sum a__law_sum d__law_sum
  g__law_sum : mg "_law_sum" = some (.ref a__law_sum)
  b__law_sum : Binds K d__law_sum ["rows"] []
  T__law_sum : ∃ c T, d__law_sum.code = .ref c ∧ (c, T) ∈ tabs K
  a__law_share : Addr
  d__law_share : FuncData
  F__law_share : FnP K "_law_share" s__law_share a__law_share d__law_share
  g__law_share : mg "_law_share" = some (.ref a__law_share)
  b__law_share : Binds K d__law_share ["draws"] []
  T__law_share : ∃ c T, d__law_share.code = .ref c ∧ (c, T) ∈ tabs K
  a_is_number : Addr
  d_is_number : FuncData
  F_is_number : FnP K "is_number" s_is_number a_is_number d_is_number
  g_is_number : mg "is_number" = some (.ref a_is_number)
  b_is_number : Binds K d_is_number ["value", "least", "most"] []
  T_is_number : ∃ c T, d_is_number.code = .ref c ∧ (c, T) ∈ tabs K
  a_lowest : Addr
  d_lowest : FuncData
  F_lowest : FnP K "lowest" s_lowest a_lowest d_lowest
  g_lowest : mg "lowest" = some (.ref a_lowest)
  b_lowest : Binds K d_lowest ["part", "whole"] []
  T_lowest : ∃ c T, d_lowest.code = .ref c ∧ (c, T) ∈ tabs K
  a_plus : Addr
  d_plus : FuncData
  F_plus : FnP K "plus" s_plus a_plus d_plus
  g_plus : mg "plus" = some (.ref a_plus)
  b_plus : Binds K d_plus ["one", "other"] []
  T_plus : ∃ c T, d_plus.code = .ref c ∧ (c, T) ∈ tabs K
  a_see_rooms : Addr
  d_see_rooms : FuncData
  F_see_rooms : FnP K "see_rooms" s_see_rooms a_see_rooms d_see_rooms
  g_see_rooms : mg "see_rooms" = some (.ref a_see_rooms)
  b_see_rooms : Binds K d_see_rooms ["rooms"] []
  T_see_rooms : ∃ c T, d_see_rooms.code = .ref c ∧ (c, T) ∈ tabs K
  a_minus : Addr
  d_minus : FuncData
  F_minus : FnP K "minus" s_minus a_minus d_minus
  g_minus : mg "minus" = some (.ref a_minus)
  b_minus : Binds K d_minus ["one", "other"] []
  T_minus : ∃ c T, d_minus.code = .ref c ∧ (c, T) ∈ tabs K
  a_times : Addr
  d_times : FuncData
  F_times : FnP K "times" s_times a_times d_times
  g_times : mg "times" = some (.ref a_times)
  b_times : Binds K d_times ["one", "other"] []
  T_times : ∃ c T, d_times.code = .ref c ∧ (c, T) ∈ tabs K
  a_more_guests : Addr
  d_more_guests : FuncData
  F_more_guests : FnP K "more_guests" s_more_guests a_more_guests d_more_guests
  g_more_guests : mg "more_guests" = some (.ref a_more_guests)
  b_more_guests : Binds K d_more_guests ["chances", "chance"] []
  T_more_guests : ∃ c T, d_more_guests.code = .ref c ∧ (c, T) ∈ tabs K
  a_added_by : Addr
  d_added_by : FuncData
  F_added_by : FnP K "added_by" s_added_by a_added_by d_added_by
  g_added_by : mg "added_by" = some (.ref a_added_by)
  b_added_by : Binds K d_added_by ["rooms", "chances", "chance", "pay", "cost"] []
  T_added_by : ∃ c T, d_added_by.code = .ref c ∧ (c, T) ∈ tabs K
  a_gain_of : Addr
  d_gain_of : FuncData
  F_gain_of : FnP K "gain_of" s_gain_of a_gain_of d_gain_of
  g_gain_of : mg "gain_of" = some (.ref a_gain_of)
  b_gain_of : Binds K d_gain_of ["rooms", "m", "chance", "pay", "cost"] []
  T_gain_of : ∃ c T, d_gain_of.code = .ref c ∧ (c, T) ∈ tabs K
  a_less : Addr
  d_less : FuncData
  F_less : FnP K "less" s_less a_less d_less
  g_less : mg "less" = some (.ref a_less)
  b_less : Binds K d_less ["one", "other"] []
  T_less : ∃ c T, d_less.code = .ref c ∧ (c, T) ∈ tabs K
  a_best_bookings : Addr
  d_best_bookings : FuncData
  F_best_bookings : FnP K "best_bookings" s_best_bookings a_best_bookings d_best_bookings
  g_best_bookings : mg "best_bookings" = some (.ref a_best_bookings)
  b_best_bookings : Binds K d_best_bookings ["rooms", "chance", "pay", "cost"] []
  T_best_bookings : ∃ c T, d_best_bookings.code = .ref c ∧ (c, T) ∈ tabs K
  a__law_told : Addr
  d__law_told : FuncData
  F__law_told : FnP K "_law_told" s__law_told a__law_told d__law_told
  g__law_told : mg "_law_told" = some (.ref a__law_told)
  b__law_told : Binds K d__law_told ["which", "rooms", "m", "chance", "pay", "cost"] []
  T__law_told : ∃ c T, d__law_told.code = .ref c ∧ (c, T) ∈ tabs K
  a__law_counts : Addr
  d__law_counts : FuncData
  F__law_counts : FnP K "_law_counts" s__law_counts a__law_counts d__law_counts
  g__law_counts : mg "_law_counts" = some (.ref a__law_counts)
  b__law_counts : Binds K d__law_counts ["chance", "many"] []
  T__law_counts : ∃ c T, d__law_counts.code = .ref c ∧ (c, T) ∈ tabs K
  a_law : Addr
  d_law : FuncData
  F_law : FnP K "law" s_law a_law d_law
  g_law : mg "law" = some (.ref a_law)
  b_law : Binds K d_law ["script"] []
  T_law : ∃ c T, d_law.code = .ref c ∧ (c, T) ∈ tabs K
  n_abs : mg "abs" = none
  n_bool : mg "bool" = none
  n_int : mg "int" = none
  n_isinstance : mg "isinstance" = none
  n_len : mg "len" = none
  n_list : mg "list" = none
  n_max : mg "max" = none
  n_min : mg "min" = none
  n_range : mg "range" = none
  n_reversed : mg "reversed" = none
  n_str : mg "str" = none
  n_tuple : mg "tuple" = none
  n_zip : mg "zip" = none
  c_MOST_ROOMS : ∃ t, mg "MOST_ROOMS" = some (.int 20 t)
  c_MOST_BOOKINGS : ∃ t, mg "MOST_BOOKINGS" = some (.int 40 t)
  c_WHOLE : Con K mg "WHOLE" (.tuple [.int 1, .int 1])
  c_NOUGHT : Con K mg "NOUGHT" (.tuple [.int 0, .int 1])
  cg_InnError : mg "InnError" = some (.ref (He.ga K "InnError"))
  cx_InnError : ClsF K mg "InnError"
  cg_OutOfRange : mg "OutOfRange" = some (.ref (He.ga K "OutOfRange"))
  cx_OutOfRange : ClsF K mg "OutOfRange"
  ck_OutOfRange : KitF K mg "OutOfRange" t_OutOfRange
  ce_InnError : ExmF K mg "InnError" t_InnError
  n_gcd : mg "gcd" = some (.builtin "math.gcd")
section
variable {P : Program} {w : World} {K : PySem.W.Frag} {mg : Str → Option Value} {base : Heap} (T : Fx K mg) (TB : ∀ p ∈ tabs K, GxR.TabB base mg p.1 p.2)
include TB
theorem ok__law_draws : FnOk P w K mg base CX0 4 T.a__law_draws T.d__law_draws ["script"] (spD K mg false 1 m__law_draws) := by
  refine fn_ok (k := 3) T.F__law_draws T.T__law_draws sc__law_draws fun c Tb A outer s H E hin hr => ?_
  have hu := hu_room hr
  exact (dss_cons (ds_set sc__law_draws.nd (de_lst da_nil)) (dss_cons (ds_for PassesOwn.never rfl (di_e de_name) (dg_name sc__law_draws.nd) (dss_cons (ds_set sc__law_draws.nd (de_abs T.n_abs de_name)) (dss_cons (ds_if (dt_lt de_name (de_pow de_int de_int)) (dss_cons (ds_set sc__law_draws.nd (de_mod (de_toInt T.n_int (de_add (de_mul de_name de_int) de_int)) de_int)) (dss_cons (ds_expr (de_append de_name (da_cons (de_mod (de_toInt T.n_int (de_add (de_mul de_name de_int) de_name)) de_int) da_nil))) (dss_cons (ds_expr (de_append de_name (da_cons (de_mod (de_toInt T.n_int (de_add de_name (de_fdv de_name de_int))) de_int) da_nil))) (dss_one (ds_set sc__law_draws.nd de_int))))) dss_nil) (dss_one (ds_for PassesOwn.never rfl (di_range1 (by rfl) T.n_range (da_cons de_int da_nil)) (dg_name sc__law_draws.nd) (dss_one (ds_if (dt_gt de_name de_int) (dss_cons (ds_expr (de_append de_name (da_cons (de_mod (de_toInt T.n_int de_name) de_int) da_nil))) (dss_one (ds_set sc__law_draws.nd (de_fdv de_name de_int)))) dss_nil))))))) (dss_cons (ds_set sc__law_draws.nd de_int) (dss_cons (ds_if (dt_gt (de_len T.n_len de_name) de_int) (dss_one (ds_set sc__law_draws.nd (de_add de_int (de_abs T.n_abs (de_ix de_name de_int))))) dss_nil) (dss_cons (ds_for PassesOwn.never rfl (di_range1 (by rfl) T.n_range (da_cons de_int da_nil)) (dg_name sc__law_draws.nd) (dss_cons (ds_set sc__law_draws.nd (de_mod (de_toInt T.n_int (de_add (de_mul de_name de_int) de_int)) de_int)) (dss_one (ds_expr (de_append de_name (da_cons (de_fdv de_name de_int) da_nil)))))) (dss_one (ds_ret (de_listRev rfl T.n_list T.n_reversed de_name))))))))
theorem ok__law_take : FnOk P w K mg base CX0 4 T.a__law_take T.d__law_take ["draws", "bound"] (spD K mg false 2 m__law_take) := by
  refine fn_ok (k := 3) T.F__law_take T.T__law_take sc__law_take fun c Tb A outer s H E hin hr => ?_
  have hu := hu_room hr
  exact (dss_cons (ds_if (dt_eq hu (de_len T.n_len de_name) de_int) (dss_one (ds_ret de_int)) dss_nil) (dss_one (ds_ret (de_mod (de_toInt T.n_int (de_pop de_name)) de_name))))
theorem ok__law_same : ∀ n : Nat, FnOk P w K mg base CX0 (4 * n + 0) T.a__law_same T.d__law_same ["actual", "due"] (spD K mg false 2 (m__law_same n))
  | 0 => fn_none (ps := ["actual", "due"]) fun _ => rfl
  | n + 1 => by
    have ih := ok__law_same n
    have hne := ne__law_same n
    rw [show 4 * (n + 1) + 0 = 4 * n + 0 + 3 + 1 by omega]
    refine fn_ok T.F__law_same T.T__law_same sc__law_same fun c Tb A outer s H E hin hr => ?_
    have hu := hu_room hr
    exact (dss_cons (ds_if (dt_pw (dw_or (dt_is de_name de_non) (dw_one_or (dt_is de_name de_non)))) (dss_one (ds_ret (de_and (de_is de_name de_non) (de_one (de_is de_name de_non))))) dss_nil) (dss_cons (ds_if (dt_pw (dw_or (dt_tru (de_isTuple T.n_isinstance T.n_tuple de_name)) (dw_one_or (dt_tru (de_isList T.n_isinstance T.n_list de_name))))) (dss_cons (ds_if (dt_pw (dw_or (dt_ne hu (de_isTuple T.n_isinstance T.n_tuple de_name) (de_isTuple T.n_isinstance T.n_tuple de_name)) (dw_one_or (dt_ne hu (de_isList T.n_isinstance T.n_list de_name) (de_isList T.n_isinstance T.n_list de_name))))) (dss_one (ds_ret de_bl)) dss_nil) (dss_cons (ds_if (dt_ne hu (de_len T.n_len de_name) (de_len T.n_len de_name)) (dss_one (ds_ret de_bl)) dss_nil) (dss_cons (ds_for PassesOwn.never rfl (di_range1 (by rfl) T.n_range (da_cons (de_len T.n_len de_name) da_nil)) (dg_name sc__law_same.nd) (dss_one (ds_if (dt_not (dt_tru (de_call0 ih hne (hr.mono (by omega)) T.g__law_same T.F__law_same.kp T.b__law_same (dm_val (de_ix de_name de_name) (dm_val (de_ix de_name de_name) dm_nil)) (alV (alV al0))))) (dss_one (ds_ret de_bl)) dss_nil))) (dss_one (ds_ret de_bl))))) dss_nil) (dss_cons (ds_if (dt_ne hu (de_isBool T.n_isinstance T.n_bool de_name) (de_isBool T.n_isinstance T.n_bool de_name)) (dss_one (ds_ret de_bl)) dss_nil) (dss_cons (ds_if (dt_pw (dw_or (dt_ne hu (de_isInt T.n_isinstance T.n_int de_name) (de_isInt T.n_isinstance T.n_int de_name)) (dw_one_or (dt_ne hu (de_isStr T.n_isinstance T.n_str de_name) (de_isStr T.n_isinstance T.n_str de_name))))) (dss_one (ds_ret de_bl)) dss_nil) (dss_one (ds_ret (de_eq hu de_name de_name)))))))
theorem ok__law_lowest : FnOk P w K mg base CX0 4 T.a__law_lowest T.d__law_lowest ["part", "whole"] (spD K mg false 2 m__law_lowest) := by
  refine fn_ok (k := 3) T.F__law_lowest T.T__law_lowest sc__law_lowest fun c Tb A outer s H E hin hr => ?_
  have hu := hu_room hr
  exact (dss_cons (ds_par rfl sc__law_lowest.nd (dr_cons (de_abs T.n_abs de_name) (dr_cons (de_abs T.n_abs de_name) dr_nil))) (dss_cons (ds_while PassesOwn.never (dt_gt de_name de_int) (dss_one (ds_par rfl sc__law_lowest.nd (dr_cons de_name (dr_cons (de_mod (de_toInt T.n_int de_name) de_name) dr_nil))))) (dss_cons (ds_if (dt_lt de_name de_int) (dss_one (ds_set sc__law_lowest.nd (de_neg de_name))) dss_nil) (dss_one (ds_ret (de_tup (da_cons (de_fdv de_name de_name) (da_cons (de_fdv de_name de_name) da_nil))))))))
theorem ok__law_plus : FnOk P w K mg base CX0 8 T.a__law_plus T.d__law_plus ["one", "other"] (spD K mg false 2 m__law_plus) := by
  refine fn_ok (k := 7) T.F__law_plus T.T__law_plus sc__law_plus fun c Tb A outer s H E hin hr => ?_
  have hu := hu_room hr
  exact (dss_one (ds_ret (de_call0 (ok__law_lowest T TB) ne__law_lowest (hr.mono (by omega)) T.g__law_lowest T.F__law_lowest.kp T.b__law_lowest (dm_val (de_add (de_mul (de_ix de_name de_int) (de_ix de_name de_int)) (de_mul (de_ix de_name de_int) (de_ix de_name de_int))) (dm_val (de_mul (de_ix de_name de_int) (de_ix de_name de_int)) dm_nil)) (alV (alV al0)))))
theorem ok__law_minus : FnOk P w K mg base CX0 12 T.a__law_minus T.d__law_minus ["one", "other"] (spD K mg false 2 m__law_minus) := by
  refine fn_ok (k := 11) T.F__law_minus T.T__law_minus sc__law_minus fun c Tb A outer s H E hin hr => ?_
  have hu := hu_room hr
  exact (dss_one (ds_ret (de_call0 (ok__law_plus T TB) ne__law_plus (hr.mono (by omega)) T.g__law_plus T.F__law_plus.kp T.b__law_plus (dm_val de_name (dm_val (de_tup (da_cons (de_neg (de_ix de_name de_int)) (da_cons (de_ix de_name de_int) da_nil))) dm_nil)) (alV (alV al0)))))
theorem ok__law_times : FnOk P w K mg base CX0 8 T.a__law_times T.d__law_times ["one", "other"] (spD K mg false 2 m__law_times) := by
  refine fn_ok (k := 7) T.F__law_times T.T__law_times sc__law_times fun c Tb A outer s H E hin hr => ?_
  have hu := hu_room hr
  exact (dss_one (ds_ret (de_call0 (ok__law_lowest T TB) ne__law_lowest (hr.mono (by omega)) T.g__law_lowest T.F__law_lowest.kp T.b__law_lowest (dm_val (de_mul (de_ix de_name de_int) (de_ix de_name de_int)) (dm_val (de_mul (de_ix de_name de_int) (de_ix de_name de_int)) dm_nil)) (alV (alV al0)))))
theorem ok__law_less : FnOk P w K mg base CX0 4 T.a__law_less T.d__law_less ["one", "other"] (spD K mg false 2 m__law_less) := by
  refine fn_ok (k := 3) T.F__law_less T.T__law_less sc__law_less fun c Tb A outer s H E hin hr => ?_
  have hu := hu_room hr
  exact (dss_one (ds_ret (de_lt (de_mul (de_ix de_name de_int) (de_ix de_name de_int)) (de_mul (de_ix de_name de_int) (de_ix de_name de_int)))))
theorem ok__law_sum : FnOk P w K mg base CX0 12 T.a__law_sum T.d__law_sum ["rows"] (spD K mg false 1 m__law_sum) := by
  refine fn_ok (k := 11) T.F__law_sum T.T__law_sum sc__law_sum fun c Tb A outer s H E hin hr => ?_
  have hu := hu_room hr
  exact (dss_cons (ds_set sc__law_sum.nd (de_tup (da_cons de_int (da_cons de_int da_nil)))) (dss_cons (ds_for PassesOwn.never rfl (di_e de_name) (dg_name sc__law_sum.nd) (dss_one (ds_set sc__law_sum.nd (de_call0 (ok__law_plus T TB) ne__law_plus (hr.mono (by omega)) T.g__law_plus T.F__law_plus.kp T.b__law_plus (dm_val de_name (dm_val de_name dm_nil)) (alV (alV al0)))))) (dss_one (ds_ret de_name))))
theorem ok__law_share : FnOk P w K mg base CX0 8 T.a__law_share T.d__law_share ["draws"] (spD K mg false 1 m__law_share) := by
  refine fn_ok (k := 7) T.F__law_share T.T__law_share sc__law_share fun c Tb A outer s H E hin hr => ?_
  have hu := hu_room hr
  exact (dss_cons (ds_set sc__law_share.nd (de_add de_int (de_call0 (ok__law_take T TB) ne__law_take (hr.mono (by omega)) T.g__law_take T.F__law_take.kp T.b__law_take (dm_mut de_name (dm_val (de_ix (de_lst (da_cons de_int (da_cons de_int (da_cons de_int da_nil)))) (de_call0 (ok__law_take T TB) ne__law_take (hr.mono (by omega)) T.g__law_take T.F__law_take.kp T.b__law_take (dm_mut de_name (dm_val de_int dm_nil)) (alM (alV al0)))) dm_nil)) (alM (alV al0))))) (dss_one (ds_ret (de_call0 (ok__law_lowest T TB) ne__law_lowest (hr.mono (by omega)) T.g__law_lowest T.F__law_lowest.kp T.b__law_lowest (dm_val (de_call0 (ok__law_take T TB) ne__law_take (hr.mono (by omega)) T.g__law_take T.F__law_take.kp T.b__law_take (dm_mut de_name (dm_val (de_add de_name de_int) dm_nil)) (alM (alV al0))) (dm_val de_name dm_nil)) (alV (alV al0))))))
theorem ok_is_number : FnOk P w K mg base CX0 4 T.a_is_number T.d_is_number ["value", "least", "most"] (spD K mg false 3 m_is_number) := by
  refine fn_ok (k := 3) T.F_is_number T.T_is_number sc_is_number fun c Tb A outer s H E hin hr => ?_
  have hu := hu_room hr
  exact (dss_one (ds_ret (de_and (de_isInt T.n_isinstance T.n_int de_name) (de_and (de_not (de_isBool T.n_isinstance T.n_bool de_name)) (de_one (de_chain op_le op_le gB0_ok gB0_ok de_name de_name de_name))))))
theorem ok_lowest : FnOk P w K mg base CX0 4 T.a_lowest T.d_lowest ["part", "whole"] (spD K mg false 2 m_lowest) := by
  refine fn_ok (k := 3) T.F_lowest T.T_lowest sc_lowest fun c Tb A outer s H E hin hr => ?_
  have hu := hu_room hr
  exact (dss_cons (ds_set sc_lowest.nd (de_gcd T.n_gcd de_name de_name)) (dss_cons (ds_if (dt_lt de_name de_int) (dss_one (ds_set sc_lowest.nd (de_neg de_name))) dss_nil) (dss_one (ds_ret (de_tup (da_cons (de_fdv de_name de_name) (da_cons (de_fdv de_name de_name) da_nil)))))))
theorem ok_plus : FnOk P w K mg base CX0 8 T.a_plus T.d_plus ["one", "other"] (spD K mg false 2 m_plus) := by
  refine fn_ok (k := 7) T.F_plus T.T_plus sc_plus fun c Tb A outer s H E hin hr => ?_
  have hu := hu_room hr
  exact (dss_one (ds_ret (de_call0 (ok_lowest T TB) ne_lowest (hr.mono (by omega)) T.g_lowest T.F_lowest.kp T.b_lowest (dm_val (de_add (de_mul (de_ix de_name de_int) (de_ix de_name de_int)) (de_mul (de_ix de_name de_int) (de_ix de_name de_int))) (dm_val (de_mul (de_ix de_name de_int) (de_ix de_name de_int)) dm_nil)) (alV (alV al0)))))
theorem ok_see_rooms : FnOk P w K mg base (L2.CX P w) 8 T.a_see_rooms T.d_see_rooms ["rooms"] (spD K mg true 1 m_see_rooms) := by
  refine fn_okX (k := 7) T.F_see_rooms T.T_see_rooms sc_see_rooms fun c Tb A outer s H E W hin hr tk hp => ?_
  have hu := hu_room hr
  exact (dss_one (ds_if (dt_not (dt_tru (de_call0 (ok_is_number T TB) ne_is_number (hr.mono (by omega)) T.g_is_number T.F_is_number.kp T.b_is_number (dm_val de_name (dm_val de_int (dm_val (de_gint T.c_MOST_ROOMS.choose_spec) dm_nil))) (alV (alV (alV al0)))))) (dss_one (ds_raise T.cx_OutOfRange tk)) dss_nil))
theorem ok_minus : FnOk P w K mg base CX0 8 T.a_minus T.d_minus ["one", "other"] (spD K mg false 2 m_minus) := by
  refine fn_ok (k := 7) T.F_minus T.T_minus sc_minus fun c Tb A outer s H E hin hr => ?_
  have hu := hu_room hr
  exact (dss_one (ds_ret (de_call0 (ok_lowest T TB) ne_lowest (hr.mono (by omega)) T.g_lowest T.F_lowest.kp T.b_lowest (dm_val (de_sub (de_mul (de_ix de_name de_int) (de_ix de_name de_int)) (de_mul (de_ix de_name de_int) (de_ix de_name de_int))) (dm_val (de_mul (de_ix de_name de_int) (de_ix de_name de_int)) dm_nil)) (alV (alV al0)))))
theorem ok_times : FnOk P w K mg base CX0 8 T.a_times T.d_times ["one", "other"] (spD K mg false 2 m_times) := by
  refine fn_ok (k := 7) T.F_times T.T_times sc_times fun c Tb A outer s H E hin hr => ?_
  have hu := hu_room hr
  exact (dss_one (ds_ret (de_call0 (ok_lowest T TB) ne_lowest (hr.mono (by omega)) T.g_lowest T.F_lowest.kp T.b_lowest (dm_val (de_mul (de_ix de_name de_int) (de_ix de_name de_int)) (dm_val (de_mul (de_ix de_name de_int) (de_ix de_name de_int)) dm_nil)) (alV (alV al0)))))
theorem ok_more_guests : FnOk P w K mg base CX0 12 T.a_more_guests T.d_more_guests ["chances", "chance"] (spD K mg false 2 m_more_guests) := by
  refine fn_ok (k := 11) T.F_more_guests T.T_more_guests sc_more_guests fun c Tb A outer s H E hin hr => ?_
  have hu := hu_room hr
  exact (dss_cons (ds_setLc (own := [("one", 4)]) rfl sc_more_guests.nd rfl rfl (sw_true rfl rfl rfl (by first | rfl | decide +kernel)) (di_e de_name) (blkOk_by (own := [("one", 4)]) (N := ns_more_guests) (by first | decide +kernel | rfl)) gok_n (fun _ _ _ _ _ => (dg_name sc_more_guests.nd)) (fun _ _ _ _ _ => dts_nil) (fun _ _ _ _ _ => (de_call0 (ok_times T TB) ne_times (hr.mono (by omega)) T.g_times T.F_times.kp T.b_times (dm_val de_name (dm_val (de_call0 (ok_minus T TB) ne_minus (hr.mono (by omega)) T.g_minus T.F_minus.kp T.b_minus (dm_val (de_con T.c_WHOLE) (dm_val de_name dm_nil)) (alV (alV al0))) dm_nil)) (alV (alV al0))))) (dss_cons (ds_setLc (own := [("one", 4)]) rfl sc_more_guests.nd rfl rfl (sw_true rfl rfl rfl (by first | rfl | decide +kernel)) (di_e de_name) (blkOk_by (own := [("one", 4)]) (N := ns_more_guests) (by first | decide +kernel | rfl)) gok_n (fun _ _ _ _ _ => (dg_name sc_more_guests.nd)) (fun _ _ _ _ _ => dts_nil) (fun _ _ _ _ _ => (de_call0 (ok_times T TB) ne_times (hr.mono (by omega)) T.g_times T.F_times.kp T.b_times (dm_val de_name (dm_val de_name dm_nil)) (alV (alV al0))))) (dss_one (ds_ret (de_lc (own := [("one", 4), ("other", 5)]) rfl sc_more_guests.nd (di_zip (by rfl) T.n_zip (da_cons (de_lst (da_star de_name (da_cons (de_con T.c_NOUGHT) da_nil))) (da_cons (de_lst (da_cons (de_con T.c_NOUGHT) (da_star de_name da_nil))) da_nil))) (blkOk_by (own := [("one", 4), ("other", 5)]) (N := ns_more_guests) (by first | decide +kernel | rfl)) (gok_t (gsok_cons gok_n (gsok_cons gok_n gsok_nil))) (fun _ _ _ _ _ => (dg_tup rfl (dgs_cons (dg_name sc_more_guests.nd) (dgs_cons (dg_name sc_more_guests.nd) dgs_nil)))) (fun _ _ _ _ _ => dts_nil) (fun _ _ _ _ _ => (de_call0 (ok_plus T TB) ne_plus (hr.mono (by omega)) T.g_plus T.F_plus.kp T.b_plus (dm_val de_name (dm_val de_name dm_nil)) (alV (alV al0)))))))))
theorem ok_added_by : FnOk P w K mg base CX0 12 T.a_added_by T.d_added_by ["rooms", "chances", "chance", "pay", "cost"] (spD K mg false 5 m_added_by) := by
  refine fn_ok (k := 11) T.F_added_by T.T_added_by sc_added_by fun c Tb A outer s H E hin hr => ?_
  have hu := hu_room hr
  exact (dss_cons (ds_set sc_added_by.nd (de_con T.c_NOUGHT)) (dss_cons (ds_for PassesOwn.never rfl (di_e (de_slice de_name (do_at de_name) do_no)) (dg_name sc_added_by.nd) (dss_one (ds_set sc_added_by.nd (de_call0 (ok_plus T TB) ne_plus (hr.mono (by omega)) T.g_plus T.F_plus.kp T.b_plus (dm_val de_name (dm_val de_name dm_nil)) (alV (alV al0)))))) (dss_one (ds_ret (de_call0 (ok_times T TB) ne_times (hr.mono (by omega)) T.g_times T.F_times.kp T.b_times (dm_val de_name (dm_val (de_call0 (ok_minus T TB) ne_minus (hr.mono (by omega)) T.g_minus T.F_minus.kp T.b_minus (dm_val (de_call0 (ok_times T TB) ne_times (hr.mono (by omega)) T.g_times T.F_times.kp T.b_times (dm_val (de_tup (da_cons de_name (da_cons de_int da_nil))) (dm_val (de_call0 (ok_minus T TB) ne_minus (hr.mono (by omega)) T.g_minus T.F_minus.kp T.b_minus (dm_val (de_con T.c_WHOLE) (dm_val de_name dm_nil)) (alV (alV al0))) dm_nil)) (alV (alV al0))) (dm_val (de_call0 (ok_times T TB) ne_times (hr.mono (by omega)) T.g_times T.F_times.kp T.b_times (dm_val (de_tup (da_cons de_name (da_cons de_int da_nil))) (dm_val de_name dm_nil)) (alV (alV al0))) dm_nil)) (alV (alV al0))) dm_nil)) (alV (alV al0)))))))
theorem ok_gain_of : FnOk P w K mg base (L2.CX P w) 16 T.a_gain_of T.d_gain_of ["rooms", "m", "chance", "pay", "cost"] (spD K mg true 5 m_gain_of) := by
  refine fn_okX (k := 15) T.F_gain_of T.T_gain_of sc_gain_of fun c Tb A outer s H E W hin hr tk hp => ?_
  have hu := hu_room hr
  exact (dss_cons (ds_expr (de_callX (ok_see_rooms T TB) tk (hr.mono (by omega)) T.g_see_rooms T.F_see_rooms.kp T.b_see_rooms (dm_val de_name dm_nil) (alV al0))) (dss_cons (ds_if (dt_not (dt_tru (de_call0 (ok_is_number T TB) ne_is_number (hr.mono (by omega)) T.g_is_number T.F_is_number.kp T.b_is_number (dm_val de_name (dm_val de_int (dm_val (de_gint T.c_MOST_BOOKINGS.choose_spec) dm_nil))) (alV (alV (alV al0)))))) (dss_one (ds_raise T.cx_OutOfRange tk)) dss_nil) (dss_cons (ds_par rfl sc_gain_of.nd (dr_cons (de_lst (da_cons (de_con T.c_WHOLE) da_nil)) (dr_cons (de_con T.c_NOUGHT) dr_nil))) (dss_cons (ds_for hp rfl (di_range1 (by rfl) T.n_range (da_cons de_name da_nil)) (dg_name sc_gain_of.nd) (dss_cons (ds_set sc_gain_of.nd (de_call0 (ok_plus T TB) ne_plus (hr.mono (by omega)) T.g_plus T.F_plus.kp T.b_plus (dm_val de_name (dm_val (de_call0 (ok_added_by T TB) ne_added_by (hr.mono (by omega)) T.g_added_by T.F_added_by.kp T.b_added_by (dm_val de_name (dm_val de_name (dm_val de_name (dm_val de_name (dm_val de_name dm_nil))))) (alV (alV (alV (alV (alV al0)))))) dm_nil)) (alV (alV al0)))) (dss_one (ds_set sc_gain_of.nd (de_call0 (ok_more_guests T TB) ne_more_guests (hr.mono (by omega)) T.g_more_guests T.F_more_guests.kp T.b_more_guests (dm_val de_name (dm_val de_name dm_nil)) (alV (alV al0))))))) (dss_one (ds_ret de_name))))))
theorem ok_less : FnOk P w K mg base CX0 4 T.a_less T.d_less ["one", "other"] (spD K mg false 2 m_less) := by
  refine fn_ok (k := 3) T.F_less T.T_less sc_less fun c Tb A outer s H E hin hr => ?_
  have hu := hu_room hr
  exact (dss_one (ds_ret (de_lt (de_mul (de_ix de_name de_int) (de_ix de_name de_int)) (de_mul (de_ix de_name de_int) (de_ix de_name de_int)))))
theorem ok_best_bookings : FnOk P w K mg base (L2.CX P w) 16 T.a_best_bookings T.d_best_bookings ["rooms", "chance", "pay", "cost"] (spD K mg true 4 m_best_bookings) := by
  refine fn_okX (k := 15) T.F_best_bookings T.T_best_bookings sc_best_bookings fun c Tb A outer s H E W hin hr tk hp => ?_
  have hu := hu_room hr
  exact (dss_cons (ds_expr (de_callX (ok_see_rooms T TB) tk (hr.mono (by omega)) T.g_see_rooms T.F_see_rooms.kp T.b_see_rooms (dm_val de_name dm_nil) (alV al0))) (dss_cons (ds_set sc_best_bookings.nd (de_lst (da_cons (de_con T.c_WHOLE) da_nil))) (dss_cons (ds_for hp rfl (di_range1 (by rfl) T.n_range (da_cons (de_gint T.c_MOST_BOOKINGS.choose_spec) da_nil)) (dg_name sc_best_bookings.nd) (dss_cons (ds_if (dt_not (dt_tru (de_call0 (ok_less T TB) ne_less (hr.mono (by omega)) T.g_less T.F_less.kp T.b_less (dm_val (de_con T.c_NOUGHT) (dm_val (de_call0 (ok_added_by T TB) ne_added_by (hr.mono (by omega)) T.g_added_by T.F_added_by.kp T.b_added_by (dm_val de_name (dm_val de_name (dm_val de_name (dm_val de_name (dm_val de_name dm_nil))))) (alV (alV (alV (alV (alV al0)))))) dm_nil)) (alV (alV al0))))) (dss_one (ds_ret de_name)) dss_nil) (dss_one (ds_set sc_best_bookings.nd (de_call0 (ok_more_guests T TB) ne_more_guests (hr.mono (by omega)) T.g_more_guests T.F_more_guests.kp T.b_more_guests (dm_val de_name (dm_val de_name dm_nil)) (alV (alV al0))))))) (dss_one (ds_ret (de_gint T.c_MOST_BOOKINGS.choose_spec))))))
theorem ok__law_told : FnOk P w K mg base CX0 20 T.a__law_told T.d__law_told ["which", "rooms", "m", "chance", "pay", "cost"] (spD K mg false 6 m__law_told) := by
  refine fn_ok (k := 19) T.F__law_told T.T__law_told sc__law_told fun c Tb A outer s H E hin hr => ?_
  have hu := hu_room hr
  exact (dss_one (ds_try T.cg_InnError T.ce_InnError takesW sc__law_told.nd (fun _ _ _ tk hp => (dss_cons (ds_if (dt_eq hu de_name de_int) (dss_one (ds_ret (de_callX (ok_gain_of T TB) tk (hr.mono (by omega)) T.g_gain_of T.F_gain_of.kp T.b_gain_of (dm_val de_name (dm_val de_name (dm_val de_name (dm_val de_name (dm_val de_name dm_nil))))) (alV (alV (alV (alV (alV al0)))))))) dss_nil) (dss_one (ds_ret (de_callX (ok_best_bookings T TB) tk (hr.mono (by omega)) T.g_best_bookings T.F_best_bookings.kp T.b_best_bookings (dm_val de_name (dm_val de_name (dm_val de_name (dm_val de_name dm_nil)))) (alV (alV (alV (alV al0))))))))) (fun _ _ => (dss_one (ds_ret (de_ix (de_lst (da_cons de_str (da_cons de_str da_nil))) (de_toInt T.n_int (de_isE T.n_isinstance T.cg_OutOfRange T.ck_OutOfRange de_name))))))))
theorem ok__law_counts : FnOk P w K mg base CX0 16 T.a__law_counts T.d__law_counts ["chance", "many"] (spD K mg false 2 m__law_counts) := by
  refine fn_ok (k := 15) T.F__law_counts T.T__law_counts sc__law_counts fun c Tb A outer s H E hin hr => ?_
  have hu := hu_room hr
  exact (dss_cons (ds_parN rfl (dr_cons (de_call0 (ok__law_minus T TB) ne__law_minus (hr.mono (by omega)) T.g__law_minus T.F__law_minus.kp T.b__law_minus (dm_val (de_tup (da_cons de_int (da_cons de_int da_nil))) (dm_val de_name dm_nil)) (alV (alV al0))) (dr_cons (de_lst da_nil) (dr_cons de_int (dr_cons (de_tup (da_cons de_int (da_cons de_int da_nil))) dr_nil)))) (pns_cons (pns_cons (pns_cons (pns_cons pns_nil sc__law_counts.nd) sc__law_counts.nd) sc__law_counts.nd) sc__law_counts.nd)) (dss_cons (ds_for PassesOwn.never rfl (di_range1 (by rfl) T.n_range (da_cons (de_add de_name de_int) da_nil)) (dg_name sc__law_counts.nd) (dss_cons (ds_expr (de_append de_name (da_cons (de_call0 (ok__law_times T TB) ne__law_times (hr.mono (by omega)) T.g__law_times T.F__law_times.kp T.b__law_times (dm_val (de_tup (da_cons de_name (da_cons de_int da_nil))) (dm_val de_name dm_nil)) (alV (alV al0))) da_nil))) (dss_one (ds_par rfl sc__law_counts.nd (dr_cons (de_call0 (ok__law_times T TB) ne__law_times (hr.mono (by omega)) T.g__law_times T.F__law_times.kp T.b__law_times (dm_val de_name (dm_val de_name dm_nil)) (alV (alV al0))) (dr_cons (de_fdv (de_mul de_name (de_sub de_name de_name)) (de_add de_name de_int)) dr_nil)))))) (dss_cons (ds_set sc__law_counts.nd (de_tup (da_cons de_int (da_cons de_int da_nil)))) (dss_cons (ds_for PassesOwn.never rfl (di_range3 (by rfl) T.n_range (da_cons de_name (da_cons (de_neg de_int) (da_cons (de_neg de_int) da_nil)))) (dg_name sc__law_counts.nd) (dss_one (ds_unp2 (de_tup (da_cons (de_call0 (ok__law_times T TB) ne__law_times (hr.mono (by omega)) T.g__law_times T.F__law_times.kp T.b__law_times (dm_val (de_ix de_name de_name) (dm_val de_name dm_nil)) (alV (alV al0))) (da_cons (de_call0 (ok__law_times T TB) ne__law_times (hr.mono (by omega)) T.g__law_times T.F__law_times.kp T.b__law_times (dm_val de_name (dm_val de_name dm_nil)) (alV (alV al0))) da_nil))) (dg2_tup rfl (dgs2_cons (dg2_sub de_name) (dgs2_cons (dg2_name sc__law_counts.nd) dgs2_nil)))))) (dss_one (ds_ret de_name))))))
theorem ok_law : FnOk P w K mg base CX0 36 T.a_law T.d_law ["script"] (spL K mg 1 m_law) := by
  refine fn_okL (k := 35) T.F_law T.T_law sc_law fun c Tb A outer s H E hin hr => ?_
  have hu := hu_room hr
  exact (dss_cons (ds_set sc_law.nd (de_call0 (ok__law_draws T TB) ne__law_draws (hr.mono (by omega)) T.g__law_draws T.F__law_draws.kp T.b__law_draws (dm_val de_name dm_nil) (alV al0))) (dss_cons (ds_parN rfl (dr_cons (de_add de_int (de_call0 (ok__law_take T TB) ne__law_take (hr.mono (by omega)) T.g__law_take T.F__law_take.kp T.b__law_take (dm_mut de_name (dm_val (de_ix (de_lst (da_cons de_int (da_cons de_int da_nil))) (de_toInt T.n_int (de_eq hu (de_call0 (ok__law_take T TB) ne__law_take (hr.mono (by omega)) T.g__law_take T.F__law_take.kp T.b__law_take (dm_mut de_name (dm_val de_int dm_nil)) (alM (alV al0))) de_int))) dm_nil)) (alM (alV al0)))) (dr_cons (de_call0 (ok__law_share T TB) ne__law_share (hr.mono (by omega)) T.g__law_share T.F__law_share.kp T.b__law_share (dm_mut de_name dm_nil) (alM al0)) dr_nil)) (pns_cons (pns_cons pns_nil sc_law.nd) sc_law.nd)) (dss_cons (ds_parN rfl (dr_cons (de_call0 (ok__law_take T TB) ne__law_take (hr.mono (by omega)) T.g__law_take T.F__law_take.kp T.b__law_take (dm_mut de_name (dm_val (de_ix (de_lst (da_cons de_int (da_cons de_int da_nil))) (de_call0 (ok__law_take T TB) ne__law_take (hr.mono (by omega)) T.g__law_take T.F__law_take.kp T.b__law_take (dm_mut de_name (dm_val de_int dm_nil)) (alM (alV al0)))) dm_nil)) (alM (alV al0))) (dr_cons (de_call0 (ok__law_take T TB) ne__law_take (hr.mono (by omega)) T.g__law_take T.F__law_take.kp T.b__law_take (dm_mut de_name (dm_val (de_ix (de_lst (da_cons de_int (da_cons de_int da_nil))) (de_call0 (ok__law_take T TB) ne__law_take (hr.mono (by omega)) T.g__law_take T.F__law_take.kp T.b__law_take (dm_mut de_name (dm_val de_int dm_nil)) (alM (alV al0)))) dm_nil)) (alM (alV al0))) dr_nil)) (pns_cons (pns_cons pns_nil sc_law.nd) sc_law.nd)) (dss_cons (ds_parN rfl (dr_cons (de_lst (da_cons (de_tup (da_cons de_int (da_cons de_int da_nil))) da_nil)) (dr_cons (de_lst da_nil) dr_nil)) (pns_cons (pns_cons pns_nil sc_law.nd) sc_law.nd)) (dss_cons (ds_for PassesOwn.never rfl (di_range1 (by rfl) T.n_range (da_cons de_int da_nil)) (dg_name sc_law.nd) (dss_cons (ds_set sc_law.nd (de_call0 (ok__law_sum T TB) ne__law_sum (hr.mono (by omega)) T.g__law_sum T.F__law_sum.kp T.b__law_sum (dm_val (de_slice (de_call0 (ok__law_counts T TB) ne__law_counts (hr.mono (by omega)) T.g__law_counts T.F__law_counts.kp T.b__law_counts (dm_val de_name (dm_val de_name dm_nil)) (alV (alV al0))) (do_at de_name) do_no) dm_nil) (alV al0))) (dss_cons (ds_expr (de_append de_name (da_cons (de_call0 (ok__law_times T TB) ne__law_times (hr.mono (by omega)) T.g__law_times T.F__law_times.kp T.b__law_times (dm_val de_name (dm_val (de_call0 (ok__law_minus T TB) ne__law_minus (hr.mono (by omega)) T.g__law_minus T.F__law_minus.kp T.b__law_minus (dm_val (de_call0 (ok__law_times T TB) ne__law_times (hr.mono (by omega)) T.g__law_times T.F__law_times.kp T.b__law_times (dm_val (de_tup (da_cons de_name (da_cons de_int da_nil))) (dm_val (de_call0 (ok__law_minus T TB) ne__law_minus (hr.mono (by omega)) T.g__law_minus T.F__law_minus.kp T.b__law_minus (dm_val (de_tup (da_cons de_int (da_cons de_int da_nil))) (dm_val de_name dm_nil)) (alV (alV al0))) dm_nil)) (alV (alV al0))) (dm_val (de_call0 (ok__law_times T TB) ne__law_times (hr.mono (by omega)) T.g__law_times T.F__law_times.kp T.b__law_times (dm_val (de_tup (da_cons de_name (da_cons de_int da_nil))) (dm_val de_name dm_nil)) (alV (alV al0))) dm_nil)) (alV (alV al0))) dm_nil)) (alV (alV al0))) da_nil))) (dss_one (ds_expr (de_append de_name (da_cons (de_call0 (ok__law_plus T TB) ne__law_plus (hr.mono (by omega)) T.g__law_plus T.F__law_plus.kp T.b__law_plus (dm_val (de_ix de_name (de_neg de_int)) (dm_val (de_ix de_name (de_neg de_int)) dm_nil)) (alV (alV al0))) da_nil))))))) (dss_cons (ds_for PassesOwn.never rfl (di_e (de_lst (da_cons de_int (da_cons de_int (da_cons de_name (da_cons (de_call0 (ok__law_take T TB) ne__law_take (hr.mono (by omega)) T.g__law_take T.F__law_take.kp T.b__law_take (dm_mut de_name (dm_val de_int dm_nil)) (alM (alV al0))) (da_cons (de_ix (de_lst (da_cons (de_call0 (ok__law_take T TB) ne__law_take (hr.mono (by omega)) T.g__law_take T.F__law_take.kp T.b__law_take (dm_mut de_name (dm_val de_int dm_nil)) (alM (alV al0))) (da_cons de_int da_nil))) (de_toInt T.n_int (de_eq hu (de_call0 (ok__law_take T TB) ne__law_take (hr.mono (by omega)) T.g__law_take T.F__law_take.kp T.b__law_take (dm_mut de_name (dm_val de_int dm_nil)) (alM (alV al0))) de_int))) da_nil))))))) (dg_name sc_law.nd) (dss_cons (ds_set sc_law.nd (de_call0 (ok__law_counts T TB) ne__law_counts (hr.mono (by omega)) T.g__law_counts T.F__law_counts.kp T.b__law_counts (dm_val de_name (dm_val de_name dm_nil)) (alV (alV al0)))) (dss_cons (ds_set sc_law.nd (de_call0 (ok__law_sum T TB) ne__law_sum (hr.mono (by omega)) T.g__law_sum T.F__law_sum.kp T.b__law_sum (dm_val (de_lc (own := [("k", 13)]) rfl sc_law.nd (di_range1 (by rfl) T.n_range (da_cons (de_add de_name de_int) da_nil)) (blkOk_by (own := [("k", 13)]) (N := ns_law) (by first | decide +kernel | rfl)) gok_n (fun _ _ _ _ _ => (dg_name sc_law.nd)) (fun _ _ _ _ _ => dts_nil) (fun _ _ _ _ _ => (de_call0 (ok__law_times T TB) ne__law_times (hr.mono (by omega)) T.g__law_times T.F__law_times.kp T.b__law_times (dm_val (de_tup (da_cons (de_sub (de_mul de_name (de_min2 rfl T.n_min de_name de_name)) (de_mul de_name (de_max2 rfl T.n_max de_int (de_sub de_name de_name)))) (da_cons de_int da_nil))) (dm_val (de_ix de_name de_name) dm_nil)) (alV (alV al0))))) dm_nil) (alV al0))) (dss_one (ds_if (dt_pw (dw_or (dt_not (dt_tru (de_call0 (ok__law_same T TB 8) (ne__law_same _) (hr.mono (by omega)) T.g__law_same T.F__law_same.kp T.b__law_same (dm_val (de_call0 (ok__law_told T TB) ne__law_told (hr.mono (by omega)) T.g__law_told T.F__law_told.kp T.b__law_told (dm_val de_int (dm_val de_name (dm_val de_name (dm_val de_name (dm_val de_name (dm_val de_name dm_nil)))))) (alV (alV (alV (alV (alV (alV al0))))))) (dm_val de_name dm_nil)) (alV (alV al0))))) (dw_one_or (dt_ne hu de_name (de_ix de_name de_name))))) (dss_one (ds_ret de_bl)) dss_nil))))) (dss_cons (ds_set sc_law.nd de_int) (dss_cons (ds_for PassesOwn.never rfl (di_range1 (by rfl) T.n_range (da_cons de_int da_nil)) (dg_name sc_law.nd) (dss_one (ds_set sc_law.nd (de_if (dt_tru (de_call0 (ok__law_less T TB) ne__law_less (hr.mono (by omega)) T.g__law_less T.F__law_less.kp T.b__law_less (dm_val (de_ix de_name de_name) (dm_val (de_ix de_name de_name) dm_nil)) (alV (alV al0)))) de_name de_name)))) (dss_cons (ds_if (dt_pw (dw_or (dt_not (dt_tru (de_call0 (ok__law_same T TB 8) (ne__law_same _) (hr.mono (by omega)) T.g__law_same T.F__law_same.kp T.b__law_same (dm_val (de_call0 (ok__law_told T TB) ne__law_told (hr.mono (by omega)) T.g__law_told T.F__law_told.kp T.b__law_told (dm_val de_int (dm_val de_name (dm_val de_int (dm_val de_name (dm_val de_name (dm_val de_name dm_nil)))))) (alV (alV (alV (alV (alV (alV al0))))))) (dm_val de_name dm_nil)) (alV (alV al0))))) (dw_one_or (dt_ne hu (de_lc (own := [("m", 8)]) rfl sc_law.nd (di_range2 (by rfl) T.n_range (da_cons de_int (da_cons de_int da_nil))) (blkOk_by (own := [("m", 8)]) (N := ns_law) (by first | decide +kernel | rfl)) gok_n (fun _ _ _ _ _ => (dg_name sc_law.nd)) (fun _ _ _ _ _ => (dts_one (dt_tru (de_call0 (ok__law_less T TB) ne__law_less (hr.mono (by omega)) T.g__law_less T.F__law_less.kp T.b__law_less (dm_val (de_ix de_name (de_sub de_name de_int)) (dm_val (de_ix de_name de_name) dm_nil)) (alV (alV al0)))))) (fun _ _ _ _ _ => de_name)) (de_lst da_nil))))) (dss_one (ds_ret de_bl)) dss_nil) (dss_cons (ds_if (dt_ne hu de_name (de_ix (de_add (de_lc (own := [("m", 8)]) rfl sc_law.nd (di_range1 (by rfl) T.n_range (da_cons de_int da_nil)) (blkOk_by (own := [("m", 8)]) (N := ns_law) (by first | decide +kernel | rfl)) gok_n (fun _ _ _ _ _ => (dg_name sc_law.nd)) (fun _ _ _ _ _ => (dts_one (dt_not (dt_tru (de_call0 (ok__law_less T TB) ne__law_less (hr.mono (by omega)) T.g__law_less T.F__law_less.kp T.b__law_less (dm_val (de_tup (da_cons de_int (da_cons de_int da_nil))) (dm_val (de_ix de_name de_name) dm_nil)) (alV (alV al0))))))) (fun _ _ _ _ _ => de_name)) (de_lst (da_cons de_int da_nil))) de_int)) (dss_one (ds_ret de_bl)) dss_nil) (dss_cons (ds_if (dt_ne hu (de_lc (own := [("which", 14), ("one", 15)]) rfl sc_law.nd (di_e (de_lst (da_cons (de_tup (da_cons de_int (da_cons de_int da_nil))) (da_cons (de_tup (da_cons de_int (da_cons de_int da_nil))) (da_cons (de_tup (da_cons de_int (da_cons de_int da_nil))) (da_cons (de_tup (da_cons de_int (da_cons de_int da_nil))) da_nil)))))) (blkOk_by (own := [("which", 14), ("one", 15)]) (N := ns_law) (by first | decide +kernel | rfl)) (gok_t (gsok_cons gok_n (gsok_cons gok_n gsok_nil))) (fun _ _ _ _ _ => (dg_tup rfl (dgs_cons (dg_name sc_law.nd) (dgs_cons (dg_name sc_law.nd) dgs_nil)))) (fun _ _ _ _ _ => dts_nil) (fun _ _ _ _ _ => (de_call0 (ok__law_told T TB) ne__law_told (hr.mono (by omega)) T.g__law_told T.F__law_told.kp T.b__law_told (dm_val de_name (dm_val de_name (dm_val de_int (dm_val de_name (dm_val de_name (dm_val de_name dm_nil)))))) (alV (alV (alV (alV (alV (alV al0))))))))) (de_mul (de_lst (da_cons de_str da_nil)) de_int)) (dss_one (ds_ret de_bl)) dss_nil) (dss_one (ds_ret (de_eq hu (de_lc (own := [("m", 8)]) rfl sc_law.nd (di_e (de_lst (da_cons (de_neg de_int) (da_cons de_int da_nil)))) (blkOk_by (own := [("m", 8)]) (N := ns_law) (by first | decide +kernel | rfl)) gok_n (fun _ _ _ _ _ => (dg_name sc_law.nd)) (fun _ _ _ _ _ => dts_nil) (fun _ _ _ _ _ => (de_call0 (ok__law_told T TB) ne__law_told (hr.mono (by omega)) T.g__law_told T.F__law_told.kp T.b__law_told (dm_val de_int (dm_val de_name (dm_val de_name (dm_val de_name (dm_val de_name (dm_val de_name dm_nil)))))) (alV (alV (alV (alV (alV (alV al0))))))))) (de_mul (de_lst (da_cons de_str da_nil)) de_int)))))))))))))))
end
/-! the head -/
def df__law_draws : He.DefD := ⟨("_law_draws", none), "_law_draws", "_law_draws", defArgs s__law_draws, defBody s__law_draws, defScope s__law_draws, [], []⟩
def df__law_take : He.DefD := ⟨("_law_take", none), "_law_take", "_law_take", defArgs s__law_take, defBody s__law_take, defScope s__law_take, [], []⟩
def df__law_same : He.DefD := ⟨("_law_same", none), "_law_same", "_law_same", defArgs s__law_same, defBody s__law_same, defScope s__law_same, [], []⟩
def df__law_lowest : He.DefD := ⟨("_law_lowest", none), "_law_lowest", "_law_lowest", defArgs s__law_lowest, defBody s__law_lowest, defScope s__law_lowest, [], []⟩
def df__law_plus : He.DefD := ⟨("_law_plus", none), "_law_plus", "_law_plus", defArgs s__law_plus, defBody s__law_plus, defScope s__law_plus, [], []⟩
def df__law_minus : He.DefD := ⟨("_law_minus", none), "_law_minus", "_law_minus", defArgs s__law_minus, defBody s__law_minus, defScope s__law_minus, [], []⟩
def df__law_times : He.DefD := ⟨("_law_times", none), "_law_times", "_law_times", defArgs s__law_times, defBody s__law_times, defScope s__law_times, [], []⟩
def df__law_less : He.DefD := ⟨("_law_less", none), "_law_less", "_law_less", defArgs s__law_less, defBody s__law_less, defScope s__law_less, [], []⟩
def df__law_sum : He.DefD := ⟨("_law_sum", none), "_law_sum", "_law_sum", defArgs s__law_sum, defBody s__law_sum, defScope s__law_sum, [], []⟩
def df__law_share : He.DefD := ⟨("_law_share", none), "_law_share", "_law_share", defArgs s__law_share, defBody s__law_share, defScope s__law_share, [], []⟩
def df_is_number : He.DefD := ⟨("is_number", none), "is_number", "is_number", defArgs s_is_number, defBody s_is_number, defScope s_is_number, [], []⟩
def df_lowest : He.DefD := ⟨("lowest", none), "lowest", "lowest", defArgs s_lowest, defBody s_lowest, defScope s_lowest, [], []⟩
def df_plus : He.DefD := ⟨("plus", none), "plus", "plus", defArgs s_plus, defBody s_plus, defScope s_plus, [], []⟩
def df_see_rooms : He.DefD := ⟨("see_rooms", none), "see_rooms", "see_rooms", defArgs s_see_rooms, defBody s_see_rooms, defScope s_see_rooms, [], []⟩
def df_minus : He.DefD := ⟨("minus", none), "minus", "minus", defArgs s_minus, defBody s_minus, defScope s_minus, [], []⟩
def df_times : He.DefD := ⟨("times", none), "times", "times", defArgs s_times, defBody s_times, defScope s_times, [], []⟩
def df_more_guests : He.DefD := ⟨("more_guests", none), "more_guests", "more_guests", defArgs s_more_guests, defBody s_more_guests, defScope s_more_guests, [], []⟩
def df_added_by : He.DefD := ⟨("added_by", none), "added_by", "added_by", defArgs s_added_by, defBody s_added_by, defScope s_added_by, [], []⟩
def df_gain_of : He.DefD := ⟨("gain_of", none), "gain_of", "gain_of", defArgs s_gain_of, defBody s_gain_of, defScope s_gain_of, [], []⟩
def df_less : He.DefD := ⟨("less", none), "less", "less", defArgs s_less, defBody s_less, defScope s_less, [], []⟩
def df_best_bookings : He.DefD := ⟨("best_bookings", none), "best_bookings", "best_bookings", defArgs s_best_bookings, defBody s_best_bookings, defScope s_best_bookings, [], []⟩
def df__law_told : He.DefD := ⟨("_law_told", none), "_law_told", "_law_told", defArgs s__law_told, defBody s__law_told, defScope s__law_told, [], []⟩
def df__law_counts : He.DefD := ⟨("_law_counts", none), "_law_counts", "_law_counts", defArgs s__law_counts, defBody s__law_counts, defScope s__law_counts, [], []⟩
def df_law : He.DefD := ⟨("law", none), "law", "law", defArgs s_law, defBody s_law, defScope s_law, [], []⟩
def fn : List He.DefD := [df__law_draws, df__law_take, df__law_same, df__law_lowest, df__law_plus, df__law_minus, df__law_times, df__law_less, df__law_sum, df__law_share, df_is_number, df_lowest, df_plus, df_see_rooms, df_minus, df_times, df_more_guests, df_added_by, df_gain_of, df_less, df_best_bookings, df__law_told, df__law_counts, df_law]
def fa : List He.Fa := [.glo "_law_draws", .glo "_law_take", .glo "_law_same", .glo "_law_lowest", .glo "_law_plus", .glo "_law_minus", .glo "_law_times", .glo "_law_less", .glo "_law_sum", .glo "_law_share", .glo "is_number", .glo "lowest", .glo "plus", .glo "see_rooms", .glo "minus", .glo "times", .glo "more_guests", .glo "added_by", .glo "gain_of", .glo "less", .glo "best_bookings", .glo "_law_told", .glo "_law_counts", .glo "law", .free "abs", .free "bool", .free "int", .free "isinstance", .free "len", .free "list", .free "max", .free "min", .free "range", .free "reversed", .free "str", .free "tuple", .free "zip", .int "MOST_ROOMS" 20, .int "MOST_BOOKINGS" 40, .glo "InnError", .glo "OutOfRange", .exc "InnError", .exc "OutOfRange", .exm "InnError" "InnError" true, .exm "OutOfRange" "InnError" true]
def xf : List XFa := [.con "WHOLE" (.tuple [.int 1, .int 1]), .con "NOUGHT" (.tuple [.int 0, .int 1]), .bui "gcd" "math.gcd", .excC "InnError", .excC "OutOfRange", .kit "InnError" "OutOfRange" false, .kit "OutOfRange" "OutOfRange" true]
def nms0 : List PySem.Str := ["InnError", "OutOfRange", "is_number", "lowest", "plus", "minus", "times", "less", "MOST_ROOMS", "MOST_BOOKINGS", "WHOLE", "NOUGHT", "see_rooms", "more_guests", "added_by", "gain_of", "best_bookings", "_law_draws", "_law_take", "_law_same", "_law_lowest", "_law_plus", "_law_minus", "_law_times", "_law_less", "_law_sum", "_law_share", "_law_told", "_law_counts"]
def nms1 : List PySem.Str := []
abbrev nms : List PySem.Str := nms0
abbrev RR : PySem.W.OpenRow := PySem.W.OpenLaw.row PySem.Challenge.rw_guestsheld_k17_whole_bookings_beyond_roo
abbrev hk : PySem.W.Hook := hookX 4 xf fa fn
def ob (s : PySem.W.SharedT) : AlX := obsX 4 xf fa fn (HandSHeadRun.getT s)
theorem ob_eq (s : PySem.W.SharedT) : ob s = hk.obs s.abs := obsX_eq (HandSHeadRun.getT_eq s)
theorem run (w : World) : HandSHeadRun.RunEqI RR (PySem.W.view RR.prog [0, 35]) hk ob 6000 nms w := by
  unfold HandSHeadRun.RunEqI
  kernel_rfl
theorem facts {K : PySem.W.Frag} {h : Heap} {mg : Str → Option Value} (X : K.In h) (G : h.Ns mainGlobals mg) (c : He.SaysD fa fn K) (ct : ∀ d ∈ fn, codeT K d = true) (cx : ∀ x ∈ xf, x.ok K = true) : Nonempty (Fx K mg) := by
  obtain ⟨d0, F0⟩ := c.def_ 0 (d := df__law_draws) rfl
  have b0 : Binds K d0 ["script"] [] := FunD.bindsN (ps := ["script"]) F0 fun _ _ _ _ _ _ us hl => match us, hl with | [_], _ => rfl
  obtain ⟨d1, F1⟩ := c.def_ 1 (d := df__law_take) rfl
  have b1 : Binds K d1 ["draws", "bound"] [] := FunD.bindsN (ps := ["draws", "bound"]) F1 fun _ _ _ _ _ _ us hl => match us, hl with | [_, _], _ => rfl
  obtain ⟨d2, F2⟩ := c.def_ 2 (d := df__law_same) rfl
  have b2 : Binds K d2 ["actual", "due"] [] := FunD.bindsN (ps := ["actual", "due"]) F2 fun _ _ _ _ _ _ us hl => match us, hl with | [_, _], _ => rfl
  obtain ⟨d3, F3⟩ := c.def_ 3 (d := df__law_lowest) rfl
  have b3 : Binds K d3 ["part", "whole"] [] := FunD.bindsN (ps := ["part", "whole"]) F3 fun _ _ _ _ _ _ us hl => match us, hl with | [_, _], _ => rfl
  obtain ⟨d4, F4⟩ := c.def_ 4 (d := df__law_plus) rfl
  have b4 : Binds K d4 ["one", "other"] [] := FunD.bindsN (ps := ["one", "other"]) F4 fun _ _ _ _ _ _ us hl => match us, hl with | [_, _], _ => rfl
  obtain ⟨d5, F5⟩ := c.def_ 5 (d := df__law_minus) rfl
  have b5 : Binds K d5 ["one", "other"] [] := FunD.bindsN (ps := ["one", "other"]) F5 fun _ _ _ _ _ _ us hl => match us, hl with | [_, _], _ => rfl
  obtain ⟨d6, F6⟩ := c.def_ 6 (d := df__law_times) rfl
  have b6 : Binds K d6 ["one", "other"] [] := FunD.bindsN (ps := ["one", "other"]) F6 fun _ _ _ _ _ _ us hl => match us, hl with | [_, _], _ => rfl
  obtain ⟨d7, F7⟩ := c.def_ 7 (d := df__law_less) rfl
  have b7 : Binds K d7 ["one", "other"] [] := FunD.bindsN (ps := ["one", "other"]) F7 fun _ _ _ _ _ _ us hl => match us, hl with | [_, _], _ => rfl
  obtain ⟨d8, F8⟩ := c.def_ 8 (d := df__law_sum) rfl
  have b8 : Binds K d8 ["rows"] [] := FunD.bindsN (ps := ["rows"]) F8 fun _ _ _ _ _ _ us hl => match us, hl with | [_], _ => rfl
  obtain ⟨d9, F9⟩ := c.def_ 9 (d := df__law_share) rfl
  have b9 : Binds K d9 ["draws"] [] := FunD.bindsN (ps := ["draws"]) F9 fun _ _ _ _ _ _ us hl => match us, hl with | [_], _ => rfl
  obtain ⟨d10, F10⟩ := c.def_ 10 (d := df_is_number) rfl
  have b10 : Binds K d10 ["value", "least", "most"] [] := FunD.bindsN (ps := ["value", "least", "most"]) F10 fun _ _ _ _ _ _ us hl => match us, hl with | [_, _, _], _ => rfl
  obtain ⟨d11, F11⟩ := c.def_ 11 (d := df_lowest) rfl
  have b11 : Binds K d11 ["part", "whole"] [] := FunD.bindsN (ps := ["part", "whole"]) F11 fun _ _ _ _ _ _ us hl => match us, hl with | [_, _], _ => rfl
  obtain ⟨d12, F12⟩ := c.def_ 12 (d := df_plus) rfl
  have b12 : Binds K d12 ["one", "other"] [] := FunD.bindsN (ps := ["one", "other"]) F12 fun _ _ _ _ _ _ us hl => match us, hl with | [_, _], _ => rfl
  obtain ⟨d13, F13⟩ := c.def_ 13 (d := df_see_rooms) rfl
  have b13 : Binds K d13 ["rooms"] [] := FunD.bindsN (ps := ["rooms"]) F13 fun _ _ _ _ _ _ us hl => match us, hl with | [_], _ => rfl
  obtain ⟨d14, F14⟩ := c.def_ 14 (d := df_minus) rfl
  have b14 : Binds K d14 ["one", "other"] [] := FunD.bindsN (ps := ["one", "other"]) F14 fun _ _ _ _ _ _ us hl => match us, hl with | [_, _], _ => rfl
  obtain ⟨d15, F15⟩ := c.def_ 15 (d := df_times) rfl
  have b15 : Binds K d15 ["one", "other"] [] := FunD.bindsN (ps := ["one", "other"]) F15 fun _ _ _ _ _ _ us hl => match us, hl with | [_, _], _ => rfl
  obtain ⟨d16, F16⟩ := c.def_ 16 (d := df_more_guests) rfl
  have b16 : Binds K d16 ["chances", "chance"] [] := FunD.bindsN (ps := ["chances", "chance"]) F16 fun _ _ _ _ _ _ us hl => match us, hl with | [_, _], _ => rfl
  obtain ⟨d17, F17⟩ := c.def_ 17 (d := df_added_by) rfl
  have b17 : Binds K d17 ["rooms", "chances", "chance", "pay", "cost"] [] := FunD.bindsN (ps := ["rooms", "chances", "chance", "pay", "cost"]) F17 fun _ _ _ _ _ _ us hl => match us, hl with | [_, _, _, _, _], _ => rfl
  obtain ⟨d18, F18⟩ := c.def_ 18 (d := df_gain_of) rfl
  have b18 : Binds K d18 ["rooms", "m", "chance", "pay", "cost"] [] := FunD.bindsN (ps := ["rooms", "m", "chance", "pay", "cost"]) F18 fun _ _ _ _ _ _ us hl => match us, hl with | [_, _, _, _, _], _ => rfl
  obtain ⟨d19, F19⟩ := c.def_ 19 (d := df_less) rfl
  have b19 : Binds K d19 ["one", "other"] [] := FunD.bindsN (ps := ["one", "other"]) F19 fun _ _ _ _ _ _ us hl => match us, hl with | [_, _], _ => rfl
  obtain ⟨d20, F20⟩ := c.def_ 20 (d := df_best_bookings) rfl
  have b20 : Binds K d20 ["rooms", "chance", "pay", "cost"] [] := FunD.bindsN (ps := ["rooms", "chance", "pay", "cost"]) F20 fun _ _ _ _ _ _ us hl => match us, hl with | [_, _, _, _], _ => rfl
  obtain ⟨d21, F21⟩ := c.def_ 21 (d := df__law_told) rfl
  have b21 : Binds K d21 ["which", "rooms", "m", "chance", "pay", "cost"] [] := FunD.bindsN (ps := ["which", "rooms", "m", "chance", "pay", "cost"]) F21 fun _ _ _ _ _ _ us hl => match us, hl with | [_, _, _, _, _, _], _ => rfl
  obtain ⟨d22, F22⟩ := c.def_ 22 (d := df__law_counts) rfl
  have b22 : Binds K d22 ["chance", "many"] [] := FunD.bindsN (ps := ["chance", "many"]) F22 fun _ _ _ _ _ _ us hl => match us, hl with | [_, _], _ => rfl
  obtain ⟨d23, F23⟩ := c.def_ 23 (d := df_law) rfl
  have b23 : Binds K d23 ["script"] [] := FunD.bindsN (ps := ["script"]) F23 fun _ _ _ _ _ _ us hl => match us, hl with | [_], _ => rfl
  exact ⟨{ a__law_draws := _, d__law_draws := d0, F__law_draws := F0, g__law_draws := He.glo_ok X G (c.fact 0 (f := .glo "_law_draws") rfl), b__law_draws := b0, T__law_draws := codeT_ok (ct df__law_draws (List.mem_of_getElem? (i := 0) rfl)) F0, a__law_take := _, d__law_take := d1, F__law_take := F1, g__law_take := He.glo_ok X G (c.fact 1 (f := .glo "_law_take") rfl), b__law_take := b1, T__law_take := codeT_ok (ct df__law_take (List.mem_of_getElem? (i := 1) rfl)) F1, a__law_same := _, d__law_same := d2, F__law_same := F2, g__law_same := He.glo_ok X G (c.fact 2 (f := .glo "_law_same") rfl), b__law_same := b2, T__law_same := codeT_ok (ct df__law_same (List.mem_of_getElem? (i := 2) rfl)) F2, a__law_lowest := _, d__law_lowest := d3, F__law_lowest := F3, g__law_lowest := He.glo_ok X G (c.fact 3 (f := .glo "_law_lowest") rfl), b__law_lowest := b3, T__law_lowest := codeT_ok (ct df__law_lowest (List.mem_of_getElem? (i := 3) rfl)) F3, a__law_plus := _, d__law_plus := d4, F__law_plus := F4, g__law_plus := He.glo_ok X G (c.fact 4 (f := .glo "_law_plus") rfl), b__law_plus := b4, T__law_plus := codeT_ok (ct df__law_plus (List.mem_of_getElem? (i := 4) rfl)) F4, a__law_minus := _, d__law_minus := d5, F__law_minus := F5, g__law_minus := He.glo_ok X G (c.fact 5 (f := .glo "_law_minus") rfl), b__law_minus := b5, T__law_minus := codeT_ok (ct df__law_minus (List.mem_of_getElem? (i := 5) rfl)) F5, a__law_times := _, d__law_times := d6, F__law_times := F6, g__law_times := He.glo_ok X G (c.fact 6 (f := .glo "_law_times") rfl), b__law_times := b6, T__law_times := codeT_ok (ct df__law_times (List.mem_of_getElem? (i := 6) rfl)) F6, a__law_less := _, d__law_less := d7, F__law_less := F7, g__law_less := He.glo_ok X G (c.fact 7 (f := .glo "_law_less") rfl), b__law_less := b7, T__law_less := codeT_ok (ct df__law_less (List.mem_of_getElem? (i := 7) rfl)) F7, a__law_sum := _, d__law_sum := d8, F__law_sum := F8, g__law_sum := He.glo_ok X G (c.fact 8 (f := .glo "_law_sum") rfl), b__law_sum := b8, T__law_sum := codeT_ok (ct df__law_sum (List.mem_of_getElem? (i := 8) rfl)) F8, a__law_share := _, d__law_share := d9, F__law_share := F9, g__law_share := He.glo_ok X G (c.fact 9 (f := .glo "_law_share") rfl), b__law_share := b9, T__law_share := codeT_ok (ct df__law_share (List.mem_of_getElem? (i := 9) rfl)) F9, a_is_number := _, d_is_number := d10, F_is_number := F10, g_is_number := He.glo_ok X G (c.fact 10 (f := .glo "is_number") rfl), b_is_number := b10, T_is_number := codeT_ok (ct df_is_number (List.mem_of_getElem? (i := 10) rfl)) F10, a_lowest := _, d_lowest := d11, F_lowest := F11, g_lowest := He.glo_ok X G (c.fact 11 (f := .glo "lowest") rfl), b_lowest := b11, T_lowest := codeT_ok (ct df_lowest (List.mem_of_getElem? (i := 11) rfl)) F11, a_plus := _, d_plus := d12, F_plus := F12, g_plus := He.glo_ok X G (c.fact 12 (f := .glo "plus") rfl), b_plus := b12, T_plus := codeT_ok (ct df_plus (List.mem_of_getElem? (i := 12) rfl)) F12, a_see_rooms := _, d_see_rooms := d13, F_see_rooms := F13, g_see_rooms := He.glo_ok X G (c.fact 13 (f := .glo "see_rooms") rfl), b_see_rooms := b13, T_see_rooms := codeT_ok (ct df_see_rooms (List.mem_of_getElem? (i := 13) rfl)) F13, a_minus := _, d_minus := d14, F_minus := F14, g_minus := He.glo_ok X G (c.fact 14 (f := .glo "minus") rfl), b_minus := b14, T_minus := codeT_ok (ct df_minus (List.mem_of_getElem? (i := 14) rfl)) F14, a_times := _, d_times := d15, F_times := F15, g_times := He.glo_ok X G (c.fact 15 (f := .glo "times") rfl), b_times := b15, T_times := codeT_ok (ct df_times (List.mem_of_getElem? (i := 15) rfl)) F15, a_more_guests := _, d_more_guests := d16, F_more_guests := F16, g_more_guests := He.glo_ok X G (c.fact 16 (f := .glo "more_guests") rfl), b_more_guests := b16, T_more_guests := codeT_ok (ct df_more_guests (List.mem_of_getElem? (i := 16) rfl)) F16, a_added_by := _, d_added_by := d17, F_added_by := F17, g_added_by := He.glo_ok X G (c.fact 17 (f := .glo "added_by") rfl), b_added_by := b17, T_added_by := codeT_ok (ct df_added_by (List.mem_of_getElem? (i := 17) rfl)) F17, a_gain_of := _, d_gain_of := d18, F_gain_of := F18, g_gain_of := He.glo_ok X G (c.fact 18 (f := .glo "gain_of") rfl), b_gain_of := b18, T_gain_of := codeT_ok (ct df_gain_of (List.mem_of_getElem? (i := 18) rfl)) F18, a_less := _, d_less := d19, F_less := F19, g_less := He.glo_ok X G (c.fact 19 (f := .glo "less") rfl), b_less := b19, T_less := codeT_ok (ct df_less (List.mem_of_getElem? (i := 19) rfl)) F19, a_best_bookings := _, d_best_bookings := d20, F_best_bookings := F20, g_best_bookings := He.glo_ok X G (c.fact 20 (f := .glo "best_bookings") rfl), b_best_bookings := b20, T_best_bookings := codeT_ok (ct df_best_bookings (List.mem_of_getElem? (i := 20) rfl)) F20, a__law_told := _, d__law_told := d21, F__law_told := F21, g__law_told := He.glo_ok X G (c.fact 21 (f := .glo "_law_told") rfl), b__law_told := b21, T__law_told := codeT_ok (ct df__law_told (List.mem_of_getElem? (i := 21) rfl)) F21, a__law_counts := _, d__law_counts := d22, F__law_counts := F22, g__law_counts := He.glo_ok X G (c.fact 22 (f := .glo "_law_counts") rfl), b__law_counts := b22, T__law_counts := codeT_ok (ct df__law_counts (List.mem_of_getElem? (i := 22) rfl)) F22, a_law := _, d_law := d23, F_law := F23, g_law := He.glo_ok X G (c.fact 23 (f := .glo "law") rfl), b_law := b23, T_law := codeT_ok (ct df_law (List.mem_of_getElem? (i := 23) rfl)) F23, n_abs := He.free_ok X G (c.fact 24 (f := .free "abs") rfl), n_bool := He.free_ok X G (c.fact 25 (f := .free "bool") rfl), n_int := He.free_ok X G (c.fact 26 (f := .free "int") rfl), n_isinstance := He.free_ok X G (c.fact 27 (f := .free "isinstance") rfl), n_len := He.free_ok X G (c.fact 28 (f := .free "len") rfl), n_list := He.free_ok X G (c.fact 29 (f := .free "list") rfl), n_max := He.free_ok X G (c.fact 30 (f := .free "max") rfl), n_min := He.free_ok X G (c.fact 31 (f := .free "min") rfl), n_range := He.free_ok X G (c.fact 32 (f := .free "range") rfl), n_reversed := He.free_ok X G (c.fact 33 (f := .free "reversed") rfl), n_str := He.free_ok X G (c.fact 34 (f := .free "str") rfl), n_tuple := He.free_ok X G (c.fact 35 (f := .free "tuple") rfl), n_zip := He.free_ok X G (c.fact 36 (f := .free "zip") rfl), c_MOST_ROOMS := He.int_ok X G (c.fact 37 (f := .int "MOST_ROOMS" 20) rfl), c_MOST_BOOKINGS := He.int_ok X G (c.fact 38 (f := .int "MOST_BOOKINGS" 40) rfl), cg_InnError := He.glo_ok X G (c.fact 39 (f := .glo "InnError") rfl), cx_InnError := ⟨He.glo_ok X G (c.fact 39 (f := .glo "InnError") rfl), He.exc_ok (c.fact 41 (f := .exc "InnError") rfl), excC_ok (cx _ (List.mem_of_getElem? (i := 3) rfl))⟩, cg_OutOfRange := He.glo_ok X G (c.fact 40 (f := .glo "OutOfRange") rfl), cx_OutOfRange := ⟨He.glo_ok X G (c.fact 40 (f := .glo "OutOfRange") rfl), He.exc_ok (c.fact 42 (f := .exc "OutOfRange") rfl), excC_ok (cx _ (List.mem_of_getElem? (i := 4) rfl))⟩, ck_OutOfRange := List.forall_mem_cons.mpr ⟨⟨excC_ok (cx _ (List.mem_of_getElem? (i := 3) rfl)), kit_ok (cx _ (List.mem_of_getElem? (i := 5) rfl))⟩, List.forall_mem_cons.mpr ⟨⟨excC_ok (cx _ (List.mem_of_getElem? (i := 4) rfl)), kit_ok (cx _ (List.mem_of_getElem? (i := 6) rfl))⟩, fun p hp => by cases hp⟩⟩, ce_InnError := List.forall_mem_cons.mpr ⟨⟨He.glo_ok X G (c.fact 39 (f := .glo "InnError") rfl), He.exm_ok (c.fact 43 (f := .exm "InnError" "InnError" true) rfl)⟩, List.forall_mem_cons.mpr ⟨⟨He.glo_ok X G (c.fact 40 (f := .glo "OutOfRange") rfl), He.exm_ok (c.fact 44 (f := .exm "OutOfRange" "InnError" true) rfl)⟩, fun p hp => by cases hp⟩⟩, c_WHOLE := con_ok X G (cx _ (List.mem_of_getElem? (i := 0) rfl)), c_NOUGHT := con_ok X G (cx _ (List.mem_of_getElem? (i := 1) rfl)), n_gcd := bui_ok X G (cx _ (List.mem_of_getElem? (i := 2) rfl)) }⟩
open PySem.W PySem.Calls in
theorem holds_of (hm : ∀ ns : List Int, ns.length ≤ 63 → ∃ σ', m_law [some (.d (.list (ns.map PyData.int)))] = .ok (.d (.bool true)) σ') : PySem.Challenge.rw_guestsheld_k17_whole_bookings_beyond_roo.Holds := by
  w_on; o_law
  refine HandSHeadRun.head_imp (r := RR) (q := view RR.prog [0, 35]) (H := hk) (ob := ob) (M := 6000) (loose := nms) (d := HandSHeadRun.topDef RR.prog 35) (kwd := []) ob_eq
    run (by kernel_rfl) (by kernel_rfl) (by kernel_rfl) (by rfl) (by first | assumption | decide +kernel) (by decide +kernel) ⟨rfl, rfl, rfl, rfl, rfl, by decide +kernel⟩ ?hw ?hc
  case hw => w_witness2
  case hc =>
    refine LamX.walk_ofTsE (l := PySem.Challenge.rw_guestsheld_k17_whole_bookings_beyond_roo) (n := 63) (k := 36) (x := "script") (CX := fun _ => L2.CX0) rfl (by decide) (by kernel_rfl) ⟨rfl, by decide, by decide⟩ ?F (fun _ _ _ _ _ z => z)
    intro w mg fa h Y G hmg0
    obtain ⟨K, KX, c, nl, tb, ct, cx⟩ := Y
    have hmg : mg ("law" : PySem.Str) = some (.ref fa) := by
      have e : (HandSHeadRun.topDef RR.prog 35).name = ("law" : PySem.Str) := by kernel_rfl
      rw [← e]
      exact hmg0
    obtain ⟨T⟩ := facts KX G c ct cx
    have ea := T.g_law.symm.trans hmg
    injection ea with ea
    injection ea with ea
    subst ea
    exact ⟨K, KX, T.d_law, tabs K, spL K mg 1 m_law, fun p hp => (tb p hp).1, fun p hp => (tb p hp).2.1, fun p hp => (tb p hp).2.2, fun s v => FunD.bindsA (ps := ["script"]) T.F_law (fun _ _ _ _ _ _ us hl => match us, hl with | [_], _ => rfl) s [v] rfl, fun H a ns hl _ ht hS => law_sp nl hm hl ht hS, fun base _ _ TB => ok_law T fun p hp => ⟨(TB p hp).code, (TB p hp).bm, (TB p hp).gP⟩⟩
end K17

set_option Elab.async false
set_option linter.all false
set_option maxRecDepth 100000
set_option maxHeartbeats 4000000
/-! k17: guests that come: the plain reckoning -/
namespace K17
open PySem FL FL.Com
/-- one guest more: c is carried -/
def stp (q a : Int) : Int → List Int → List Int
  | c, [] => [c]
  | c, x :: l => (x * q + c) :: stp q a (x * a) l
/-- over b ^ n: how many of n guests come -/
def bin (q a : Int) : Nat → List Int
  | 0 => [1]
  | n + 1 => stp q a 0 (bin q a n)
def dot (f : Nat → Int) : Nat → List Int → Int
  | _, [] => 0
  | i, x :: l => f i * x + dot f (i + 1) l
theorem dot_stp (f : Nat → Int) (q a : Int) : ∀ (L : List Int) (i : Nat) (c : Int), dot f i (stp q a c L) = f i * c + q * dot f i L + a * dot (fun k => f (k + 1)) i L
  | [], i, c => by simp [stp, dot]
  | x :: l, i, c => by
    simp only [stp, dot, dot_stp f q a l]
    grind
theorem dot_add (f g : Nat → Int) : ∀ (L : List Int) (i : Nat), dot (fun k => f k + g k) i L = dot f i L + dot g i L
  | [], _ => rfl
  | x :: l, i => by
    simp only [dot, dot_add f g l]
    grind
theorem dot_mul (f : Nat → Int) (c : Int) : ∀ (L : List Int) (i : Nat), dot (fun k => c * f k) i L = c * dot f i L
  | [], _ => by simp [dot]
  | x :: l, i => by
    simp only [dot, dot_mul f c l]
    grind
theorem dot_one : ∀ (L : List Int) (i : Nat), dot (fun _ => 1) i L = L.sum
  | [], _ => rfl
  | x :: l, i => by simp only [dot, dot_one l, List.sum_cons, Int.one_mul]
theorem dot_le (f g : Nat → Int) (h : ∀ k, f k ≤ g k) : ∀ (L : List Int) (i : Nat), (∀ x ∈ L, 0 ≤ x) → dot f i L ≤ dot g i L
  | [], _, _ => Int.le_refl _
  | x :: l, i, hx => by
    have h1 := Int.mul_le_mul_of_nonneg_right (h i) (hx x List.mem_cons_self)
    have h2 := dot_le f g h l (i + 1) fun y hy => hx y (List.mem_cons_of_mem _ hy)
    simp only [dot]
    omega
def ind (r k : Nat) : Int := if r ≤ k then 1 else 0
theorem dot_ind (r : Nat) : ∀ (L : List Int) (i : Nat), dot (ind r) i L = (L.drop (r - i)).sum
  | [], _ => by simp [dot]
  | x :: l, i => by
    simp only [dot, dot_ind r l]
    by_cases h : r ≤ i
    · have e1 : r - i = 0 := by omega
      have e2 : r - (i + 1) = 0 := by omega
      simp [ind, h, e1, e2]
    · have e1 : r - i = (r - (i + 1)) + 1 := by omega
      simp [ind, h, e1]
section
variable {q a b : Int} (hq : 0 ≤ q) (ha : 0 ≤ a) (hb : q + a = b)
include hq ha in
theorem stp_nn : ∀ (L : List Int) (c : Int), 0 ≤ c → (∀ x ∈ L, 0 ≤ x) → ∀ x ∈ stp q a c L, 0 ≤ x
  | [], c, hc, _ => fun x hx => by rw [List.mem_singleton.mp hx]; exact hc
  | y :: l, c, hc, h => fun x hx => by
    have hy := h y List.mem_cons_self
    rcases List.mem_cons.mp hx with rfl | hx
    · have := Int.mul_nonneg hy hq; omega
    · exact stp_nn l (y * a) (Int.mul_nonneg hy ha) (fun z hz => h z (List.mem_cons_of_mem _ hz)) x hx
include hq ha in
theorem bin_nn : ∀ n : Nat, ∀ x ∈ bin q a n, 0 ≤ x
  | 0 => fun x hx => by rw [List.mem_singleton.mp hx]; decide
  | n + 1 => stp_nn hq ha _ 0 (Int.le_refl _) (bin_nn n)
theorem stp_len : ∀ (L : List Int) (c : Int), (stp q a c L).length = L.length + 1
  | [], _ => rfl
  | x :: l, c => by simp [stp, stp_len l]
theorem bin_len : ∀ n : Nat, (bin q a n).length = n + 1
  | 0 => rfl
  | n + 1 => by rw [bin, stp_len, bin_len n]
include hb in
theorem bin_sum : ∀ n : Nat, (bin q a n).sum = b ^ n
  | 0 => by simp [bin]
  | n + 1 => by
    have := dot_stp (fun _ => 1) q a (bin q a n) 0 0
    rw [dot_one, dot_one, bin_sum n] at this
    rw [bin, this, Int.pow_succ, ← hb]
    grind
/-- at most -/
theorem le_sum : ∀ (L : List Int), (∀ x ∈ L, 0 ≤ x) → ∀ x ∈ L, x ≤ L.sum
  | [], _, x, h => by cases h
  | y :: l, h, x, hx => by
    have h0 : 0 ≤ l.sum := sum_nn l fun z hz => h z (List.mem_cons_of_mem _ hz)
    rw [List.sum_cons]
    rcases List.mem_cons.mp hx with rfl | hx
    · omega
    · have := le_sum l (fun z hz => h z (List.mem_cons_of_mem _ hz)) x hx
      have := h y List.mem_cons_self
      omega
where
  sum_nn : ∀ (L : List Int), (∀ x ∈ L, 0 ≤ x) → 0 ≤ L.sum
    | [], _ => Int.le_refl _
    | y :: l, h => by
      have := sum_nn l fun z hz => h z (List.mem_cons_of_mem _ hz)
      have := h y List.mem_cons_self
      rw [List.sum_cons]; omega
theorem take_sum_le : ∀ (L : List Int) (k : Nat), (∀ x ∈ L, 0 ≤ x) → 0 ≤ (L.take k).sum ∧ (L.take k).sum ≤ L.sum
  | [], _, _ => by simp
  | y :: l, 0, h => by
    have := le_sum.sum_nn (y :: l) h
    simpa using this
  | y :: l, k + 1, h => by
    have := take_sum_le l k fun z hz => h z (List.mem_cons_of_mem _ hz)
    have := h y List.mem_cons_self
    simp only [List.take_succ_cons, List.sum_cons]
    omega
theorem drop_sum_le : ∀ (L : List Int) (k : Nat), (∀ x ∈ L, 0 ≤ x) → 0 ≤ (L.drop k).sum ∧ (L.drop k).sum ≤ L.sum
  | [], _, _ => by simp
  | y :: l, 0, h => by
    have := le_sum.sum_nn (y :: l) h
    simpa using this
  | y :: l, k + 1, h => by
    have := drop_sum_le l k fun z hz => h z (List.mem_cons_of_mem _ hz)
    have := h y List.mem_cons_self
    simp only [List.drop_succ_cons, List.sum_cons]
    omega
end
/-! what is gained -/
/-- too many come, over b ^ n -/
def Fl (q a : Int) (r n : Nat) : Int := ((bin q a n).drop r).sum
/-- the worth of one booking more, over b ^ n, less the chance -/
def Gw (q a : Int) (r : Nat) (pay cost : Int) (n : Nat) : Int := pay * ((q + a) ^ n - Fl q a r n) - cost * Fl q a r n
/-- the gain of n bookings, over b ^ n -/
def Gn (q a : Int) (r : Nat) (pay cost : Int) : Nat → Int
  | 0 => 0
  | n + 1 => (q + a) * Gn q a r pay cost n + a * Gw q a r pay cost n
def wr (r : Nat) (pay cost : Int) (k : Nat) : Int := pay * (if (k : Int) ≤ r then (k : Int) else r) - cost * (if (k : Int) - r < 0 then 0 else (k : Int) - r)
theorem wr_succ (r : Nat) (pay cost : Int) (k : Nat) : wr r pay cost (k + 1) = wr r pay cost k + (pay * (1 + -1 * ind r k) + -cost * ind r k) := by
  unfold wr ind
  by_cases h : r ≤ k
  · by_cases h2 : (k : Int) ≤ r
    · have : k = r := by omega
      subst this
      have e1 : ¬ ((k + 1 : Nat) : Int) ≤ k := by omega
      have e2 : ¬ ((k + 1 : Nat) : Int) - k < 0 := by omega
      have e3 : ((k + 1 : Nat) : Int) - k = 1 := by omega
      have e4 : ¬ (k : Int) - k < 0 := by omega
      simp only [e1, e2, e3, e4, h2, Nat.le_refl, if_true, if_false, Int.le_refl]
      grind
    · have e1 : ¬ ((k + 1 : Nat) : Int) ≤ r := by omega
      have e2 : ¬ ((k + 1 : Nat) : Int) - r < 0 := by omega
      have e4 : ¬ (k : Int) - r < 0 := by omega
      have e5 : ((k + 1 : Nat) : Int) - r = (k : Int) - r + 1 := by omega
      simp only [e1, e2, e4, h2, h, if_true, if_false, e5]
      grind
  · have e1 : ((k + 1 : Nat) : Int) ≤ r := by omega
    have e2 : (k : Int) ≤ r := by omega
    have e3 : (k : Int) - r < 0 := by omega
    have e6 : ((k + 1 : Nat) : Int) = (k : Int) + 1 := by omega
    by_cases h4 : ((k + 1 : Nat) : Int) - r < 0
    · simp only [e1, e2, e3, h4, h, if_true, if_false]
      rw [e6]
      grind
    · have e5 : ((k + 1 : Nat) : Int) - r = 0 := by omega
      simp only [e1, e2, e3, h4, h, if_true, if_false, e5]
      rw [e6]
      grind
/-- the gain is the mean worth -/
theorem gain_mean (q a : Int) (r : Nat) (pay cost : Int) : ∀ n : Nat, dot (wr r pay cost) 0 (bin q a n) = Gn q a r pay cost n
  | 0 => by
    have hw : wr r pay cost 0 = 0 := by
      unfold wr
      by_cases h : r = 0
      · subst h; simp
      · have h1 : ((0 : Nat) : Int) ≤ r := by omega
        have h2 : ((0 : Nat) : Int) - r < 0 := by omega
        rw [if_pos h1, if_pos h2]; simp
    simp [bin, dot, Gn, hw]
  | n + 1 => by
    have ih := gain_mean q a r pay cost n
    have h1 := dot_stp (wr r pay cost) q a (bin q a n) 0 0
    have e : (fun k => wr r pay cost (k + 1)) = fun k => wr r pay cost k + (pay * (1 + -1 * ind r k) + -cost * ind r k) := by
      funext k; exact wr_succ r pay cost k
    have es := bin_sum (q := q) (a := a) rfl n
    have h2 : dot (fun k => wr r pay cost (k + 1)) 0 (bin q a n) = Gn q a r pay cost n + Gw q a r pay cost n := by
      rw [e, dot_add, dot_add, ih, dot_mul, dot_mul, dot_add (fun _ => 1) (fun k => -1 * ind r k), dot_mul, dot_one, dot_ind, es]
      simp only [Nat.sub_zero, Gw, Fl]
      grind
    rw [bin, h1, h2, ih, Gn]
    grind
/-- one booking more is worth less and less -/
theorem full_mono {q a : Int} (hq : 0 ≤ q) (ha : 0 ≤ a) (r n : Nat) : (q + a) * Fl q a r n ≤ Fl q a r (n + 1) := by
  have h1 := dot_stp (ind r) q a (bin q a n) 0 0
  have h2 : dot (ind r) 0 (bin q a n) ≤ dot (fun k => ind r (k + 1)) 0 (bin q a n) := dot_le _ _ (fun k => by unfold ind; split <;> split <;> omega) _ _ (bin_nn hq ha n)
  have e1 : Fl q a r n = dot (ind r) 0 (bin q a n) := by rw [dot_ind]; rfl
  have e2 : Fl q a r (n + 1) = dot (ind r) 0 (stp q a 0 (bin q a n)) := by rw [dot_ind]; rfl
  rw [e1, e2, h1]
  have h3 := Int.mul_le_mul_of_nonneg_left h2 ha
  rw [Int.add_mul]
  simp only [Int.mul_zero, Int.zero_add]
  omega
theorem worth_mono {q a : Int} (hq : 0 ≤ q) (ha : 0 ≤ a) (r n : Nat) (pay cost : Int) (hp : 0 ≤ pay) (hc : 0 ≤ cost) : Gw q a r pay cost (n + 1) ≤ (q + a) * Gw q a r pay cost n := by
  have h := full_mono hq ha r n
  have e : ∀ m, Gw q a r pay cost m = pay * (q + a) ^ m - (pay + cost) * Fl q a r m := fun m => by unfold Gw; grind
  rw [e, e, Int.pow_succ]
  have h2 := Int.mul_le_mul_of_nonneg_left h (show 0 ≤ pay + cost by omega)
  have e2 : (q + a) * (pay * (q + a) ^ n - (pay + cost) * Fl q a r n) = pay * ((q + a) ^ n * (q + a)) - (pay + cost) * ((q + a) * Fl q a r n) := by grind
  rw [e2]
  omega
/-! binomials -/
def ch : Nat → Nat → Nat
  | _, 0 => 1
  | 0, _ + 1 => 0
  | n + 1, k + 1 => ch n k + ch n (k + 1)
theorem ch_zero : ∀ n, ch n 0 = 1
  | 0 => rfl
  | _ + 1 => rfl
theorem ch_out : ∀ n k, n < k → ch n k = 0
  | 0, k + 1, _ => rfl
  | n + 1, k + 1, h => by rw [ch, ch_out n k (by omega), ch_out n (k + 1) (by omega)]
theorem ch_step : ∀ n k, ch n (k + 1) * (k + 1) = ch n k * (n - k)
  | 0, k => by simp [ch]
  | n + 1, k => by
    by_cases hk : k ≤ n
    · have h1 := ch_step n k
      have e : ch (n + 1) (k + 1) * (k + 1) = ch n k * (n + 1) := by
        rw [ch, Nat.add_mul, h1, ← Nat.mul_add, show k + 1 + (n - k) = n + 1 by omega]
      rw [e]
      cases k with
      | zero => rw [ch_zero, ch_zero]; omega
      | succ j =>
        have h2 := ch_step n j
        rw [ch, Nat.add_mul, show n + 1 - (j + 1) = n - j by omega, ← h2, ← Nat.mul_add, show j + 1 + (n - j) = n + 1 by omega]
    · rw [ch_out (n + 1) (k + 1) (by omega), show n + 1 - k = 0 by omega]
      simp
theorem ch_le : ∀ n k, ch n k ≤ 2 ^ n
  | 0, 0 => by decide
  | 0, _ + 1 => by simp [ch]
  | n + 1, 0 => by rw [ch_zero]; exact Nat.one_le_two_pow
  | n + 1, k + 1 => by
    have := ch_le n k
    have := ch_le n (k + 1)
    rw [ch, Nat.pow_succ]; omega
theorem stp_zero (q a : Int) : ∀ (L : List Int) (c : Int), (stp q a c L).getD 0 0 = L.getD 0 0 * q + c
  | [], c => by simp [stp]
  | x :: l, c => by simp [stp]
theorem stp_succ (q a : Int) : ∀ (L : List Int) (c : Int) (k : Nat), (stp q a c L).getD (k + 1) 0 = L.getD (k + 1) 0 * q + L.getD k 0 * a
  | [], c, k => by simp [stp]
  | x :: l, c, 0 => by
    have := stp_zero q a l (x * a)
    simp only [stp, List.getD_cons_succ, List.getD_cons_zero]
    rw [this]
  | x :: l, c, k + 1 => by
    have := stp_succ q a l (x * a) k
    simp only [stp, List.getD_cons_succ]
    exact this
theorem bin_at (q a : Int) : ∀ (n k : Nat), (bin q a n).getD k 0 = (ch n k : Int) * a ^ k * q ^ (n - k)
  | 0, 0 => by simp [bin, ch]
  | 0, k + 1 => by simp [bin, ch]
  | n + 1, 0 => by
    rw [bin, stp_zero, bin_at q a n 0, ch_zero, ch_zero]
    simp [Int.pow_succ]
  | n + 1, k + 1 => by
    rw [bin, stp_succ, bin_at q a n (k + 1), bin_at q a n k, ch]
    by_cases h : k + 1 ≤ n
    · rw [show n + 1 - (k + 1) = n - k by omega, show n - k = n - (k + 1) + 1 by omega, Int.pow_succ q, Int.pow_succ a]
      grind
    · rw [ch_out n (k + 1) (by omega), show n + 1 - (k + 1) = n - k by omega, Int.pow_succ a]
      grind
end K17

set_option Elab.async false
set_option linter.all false
set_option maxRecDepth 100000
set_option maxHeartbeats 4000000
namespace FL
open PySem
theorem lcL_cons {vs : List Nat} {g : G} {E : S → Res R} {d x : D} {ds xs : List D} {σ σ1 σ3 σ' : S} (e1 : g d σ = some σ1) (e2 : (E σ1).bind toD = .ok x σ3) (e3 : lcL vs g tT E ds (wipeS σ3 vs) = .ok xs σ') : lcL vs g tT E (d :: ds) σ = .ok (x :: xs) σ' := by
  unfold lcL
  rw [e1]
  simp only [tT, if_true, e2, e3]
theorem lc_mapL {α : Type} {vs : List Nat} {g : G} {E : S → Res R} {σ : S} (gg f : α → D) : ∀ (L : List α), (∀ x ∈ L, ∃ σ1 σ3, g (gg x) σ = some σ1 ∧ (E σ1).bind toD = .ok (f x) σ3 ∧ wipeS σ3 vs = σ) → lcL vs g tT E (L.map gg) σ = .ok (L.map f) σ
  | [], _ => rfl
  | x :: L, h => by
    obtain ⟨σ1, σ3, e1, e2, e3⟩ := h x List.mem_cons_self
    exact lcL_cons e1 e2 (by rw [e3]; exact lc_mapL gg f L fun y hy => h y (List.mem_cons_of_mem _ hy))
theorem cutL_from {α : Type} (xs : List α) (r : Nat) : cutL xs (some (r : Int)) none = xs.drop r := by
  unfold cutL
  rw [HT.sIx_nat]
  have : HT.sIx xs.length xs.length none = xs.length := rfl
  rw [this]
  by_cases h : r ≤ xs.length
  · rw [Nat.min_eq_left h]
    exact List.take_of_length_le (by rw [List.length_drop]; omega)
  · rw [Nat.min_eq_right (by omega), List.drop_eq_nil_of_le (by omega : xs.length ≤ r), List.drop_eq_nil_of_le (Nat.le_refl _)]
    simp
end FL
/-! k17: what the program's defs give -/
namespace K17
open PySem FL FL.Com
/-- a chance a over q + a -/
structure Sh (q a : Int) : Prop where
  hq : 0 ≤ q
  ha : 0 ≤ a
  lo : 1 ≤ q + a
  hi : q + a ≤ 20
section
variable {q a : Int} (h : Sh q a)
include h
theorem Sh.pos (n : Nat) : 0 < (q + a) ^ n := Int.pow_pos (by have := h.lo; omega)
theorem Sh.bd (n : Nat) (hn : n ≤ 300) : (q + a) ^ n ≤ 20 ^ 300 := by
  obtain ⟨m, hm⟩ := Int.eq_ofNat_of_zero_le (show 0 ≤ q + a by have := h.lo; omega)
  have hi := h.hi
  rw [hm] at hi ⊢
  have h1 : m ≤ 20 := by omega
  have h2 : m ^ n ≤ 20 ^ 300 := Nat.le_trans (Nat.pow_le_pow_left h1 n) (Nat.pow_le_pow_right (by decide) hn)
  have : ((m ^ n : Nat) : Int) ≤ ((20 ^ 300 : Nat) : Int) := Int.ofNat_le.mpr h2
  rw [Int.natCast_pow, Int.natCast_pow] at this
  exact this
theorem Sh.z (n : Nat) (hn : n ≤ 300) {x : Int} (h1 : -(1000000 * (q + a) ^ n) ≤ x) (h2 : x ≤ 1000000 * (q + a) ^ n) : Z x := by
  have hb := h.bd n hn
  have hp := h.pos n
  generalize (q + a) ^ n = B at *
  have h3 : x.natAbs ≤ 1000000 * 20 ^ 300 := by
    have e : ((20 : Int) ^ 300) = ((20 ^ 300 : Nat) : Int) := by rw [Int.natCast_pow]; rfl
    rw [e] at hb
    generalize (20 : Nat) ^ 300 = M at *
    omega
  exact Nat.lt_of_le_of_lt h3 (by decide)
theorem Sh.zB (n : Nat) (hn : n ≤ 300) : Z ((q + a) ^ n) := h.z n hn (by have := h.pos n; omega) (by have := h.pos n; omega)
theorem Sh.za : Z a := h.z 1 (by decide) (by have := h.ha; have := h.pos 1; omega) (by have := h.hq; have := h.ha; rw [Int.pow_one]; omega)
theorem Sh.zq : Z q := h.z 1 (by decide) (by have := h.hq; have := h.pos 1; omega) (by have := h.hq; have := h.ha; rw [Int.pow_one]; omega)
theorem Sh.zb : Z (q + a) := by have := h.zB 1 (by decide); rwa [Int.pow_one] at this
theorem Sh.b0 : 0 < q + a := by have := h.lo; omega
theorem bin_le (n : Nat) : ∀ x ∈ bin q a n, 0 ≤ x ∧ x ≤ (q + a) ^ n := fun x hx => by
  have h0 := bin_nn h.hq h.ha n
  have := le_sum _ h0 x hx
  rw [bin_sum rfl n] at this
  exact ⟨h0 x hx, this⟩
theorem z_nn (n : Nat) (hn : n ≤ 300) {x : Int} (h1 : 0 ≤ x) (h2 : x ≤ (q + a) ^ n) : Z x := h.z n hn (by have := h.pos n; omega) (by have := h.pos n; omega)
/-- 1 - chance -/
theorem rest_eq : m_minus [some (.d (.tuple [.int 1, .int 1])), some (.d (lw a (q + a)))] = .ok (.d (lw q (q + a))) [none, none] := by
  have := minus_same (a := 1 * (q + a)) (b := a) h.b0 (by rw [Int.one_mul]; exact h.zb) h.zb h.za
  rw [lw_whole h.b0, show 1 * (q + a) - a = q by omega] at this
  exact this
theorem law_rest_eq : m__law_minus [some (.d (.tuple [.int 1, .int 1])), some (.d (lw a (q + a)))] = .ok (.d (lw q (q + a))) [none, none] := by
  have := law_minus_same (a := 1 * (q + a)) (b := a) h.b0 (by rw [Int.one_mul]; exact h.zb) h.zb h.za
  rw [lw_whole h.b0, show 1 * (q + a) - a = q by omega] at this
  exact this
theorem lc_stp (D : Int) (hD : 0 < D) (zD : Z D) (c0 c1 c2 c3 : Option C) : ∀ (L : List Int) (c : Int), Z c → (∀ x ∈ L, Z (x * q) ∧ Z (x * a)) →
    lcL [4, 5] (gT (gN 4 :: [gN 5])) tT e_more_guests_3 (zipL (fr D (L.map (· * q)) ++ [lw 0 D]) (lw c D :: fr D (L.map (· * a)))) [c0, c1, c2, c3, none, none] = .ok (fr D (stp q a c L)) [c0, c1, c2, c3, none, none]
  | [], c, hc, _ => by
    have e := plus_same (a := 0) (b := c) hD (by show (0 : Nat) < _; exact Nat.two_pow_pos _) zD hc
    rw [Int.zero_add] at e
    refine lcL_cons (d := .tuple [lw 0 D, lw c D]) (x := lw c D) (xs := []) (σ1 := [c0, c1, c2, c3, some (.d (lw 0 D)), some (.d (lw c D))]) (σ3 := [c0, c1, c2, c3, some (.d (lw 0 D)), some (.d (lw c D))]) (by simp) (by simp [e_more_guests_3, e]) rfl
  | x :: L, c, hc, hz => by
    have hx := hz x List.mem_cons_self
    have e := plus_same (a := x * q) (b := c) hD hx.1 zD hc
    have ih := lc_stp D hD zD c0 c1 c2 c3 L (x * a) hx.2 fun y hy => hz y (List.mem_cons_of_mem _ hy)
    exact lcL_cons (d := .tuple [lw (x * q) D, lw c D]) (x := lw (x * q + c) D) (xs := fr D (stp q a (x * a) L)) (σ1 := [c0, c1, c2, c3, some (.d (lw (x * q) D)), some (.d (lw c D))]) (σ3 := [c0, c1, c2, c3, some (.d (lw (x * q) D)), some (.d (lw c D))]) (by simp) (by simp [e_more_guests_3, e]) ih
theorem more_eq (n : Nat) (hn : n ≤ 100) : m_more_guests [some (.d (.list (fr ((q + a) ^ n) (bin q a n)))), some (.d (lw a (q + a)))] = .ok (.own (fr ((q + a) ^ (n + 1)) (bin q a (n + 1)))) [none, none] := by
  have hD := h.pos n
  have zD := h.zB n (by omega)
  have hD1 := h.pos (n + 1)
  have zD1 := h.zB (n + 1) (by omega)
  have hbl := bin_le h n
  have re := rest_eq h
  have hlen : (bin q a n).length = n + 1 := bin_len n
  have eD : (q + a) ^ n * (q + a) = (q + a) ^ (n + 1) := (Int.pow_succ _ _).symm
  have mulb : ∀ x ∈ bin q a n, 0 ≤ x * q ∧ x * q ≤ (q + a) ^ (n + 1) ∧ 0 ≤ x * a ∧ x * a ≤ (q + a) ^ (n + 1) := fun x hx => by
    obtain ⟨x0, x1⟩ := hbl x hx
    have b0 := h.b0
    have a1 := Int.mul_nonneg x0 h.hq
    have a2 := Int.mul_nonneg x0 h.ha
    have e1 : x * (q + a) ≤ (q + a) ^ (n + 1) := by rw [← eD]; exact Int.mul_le_mul_of_nonneg_right x1 (by omega)
    rw [Int.mul_add] at e1
    exact ⟨a1, by omega, a2, by omega⟩
  have stay : lcL [4] (gN 4) tT e_more_guests_1 (fr ((q + a) ^ n) (bin q a n)) [some (.d (.list (fr ((q + a) ^ n) (bin q a n)))), some (.d (lw a (q + a))), none, none, none, none] = .ok (fr ((q + a) ^ (n + 1)) ((bin q a n).map (· * q))) [some (.d (.list (fr ((q + a) ^ n) (bin q a n)))), some (.d (lw a (q + a))), none, none, none, none] := by
    have := lc_mapL (vs := [4]) (g := gN 4) (E := e_more_guests_1) (σ := [some (.d (.list (fr ((q + a) ^ n) (bin q a n)))), some (.d (lw a (q + a))), none, none, none, none]) (fun x => lw x ((q + a) ^ n)) (fun x => lw (x * q) ((q + a) ^ (n + 1))) (bin q a n) fun x hx => by
      have te := times_eq (a := x) (b := q) hD h.b0 (z_nn h n (by omega) (hbl x hx).1 (hbl x hx).2) zD h.zq h.zb
      rw [eD] at te
      refine ⟨[some (.d (.list (fr ((q + a) ^ n) (bin q a n)))), some (.d (lw a (q + a))), none, none, some (.d (lw x ((q + a) ^ n))), none], [some (.d (.list (fr ((q + a) ^ n) (bin q a n)))), some (.d (lw a (q + a))), none, none, some (.d (lw x ((q + a) ^ n))), none], by simp, ?_, by simp⟩
      generalize fr ((q + a) ^ n) (bin q a n) = ds
      simp [e_more_guests_1, re, te]
    rw [show fr ((q + a) ^ (n + 1)) ((bin q a n).map (· * q)) = (bin q a n).map fun x => lw (x * q) ((q + a) ^ (n + 1)) by unfold fr; rw [List.map_map]; rfl]
    exact this
  have come : ∀ c2, lcL [4] (gN 4) tT e_more_guests_2 (fr ((q + a) ^ n) (bin q a n)) [some (.d (.list (fr ((q + a) ^ n) (bin q a n)))), some (.d (lw a (q + a))), c2, none, none, none] = .ok (fr ((q + a) ^ (n + 1)) ((bin q a n).map (· * a))) [some (.d (.list (fr ((q + a) ^ n) (bin q a n)))), some (.d (lw a (q + a))), c2, none, none, none] := fun c2 => by
    have := lc_mapL (vs := [4]) (g := gN 4) (E := e_more_guests_2) (σ := [some (.d (.list (fr ((q + a) ^ n) (bin q a n)))), some (.d (lw a (q + a))), c2, none, none, none]) (fun x => lw x ((q + a) ^ n)) (fun x => lw (x * a) ((q + a) ^ (n + 1))) (bin q a n) fun x hx => by
      have te := times_eq (a := x) (b := a) hD h.b0 (z_nn h n (by omega) (hbl x hx).1 (hbl x hx).2) zD h.za h.zb
      rw [eD] at te
      refine ⟨[some (.d (.list (fr ((q + a) ^ n) (bin q a n)))), some (.d (lw a (q + a))), c2, none, some (.d (lw x ((q + a) ^ n))), none], [some (.d (.list (fr ((q + a) ^ n) (bin q a n)))), some (.d (lw a (q + a))), c2, none, some (.d (lw x ((q + a) ^ n))), none], by simp, ?_, by simp⟩
      generalize fr ((q + a) ^ n) (bin q a n) = ds
      simp [e_more_guests_2, te]
    rw [show fr ((q + a) ^ (n + 1)) ((bin q a n).map (· * a)) = (bin q a n).map fun x => lw (x * a) ((q + a) ^ (n + 1)) by unfold fr; rw [List.map_map]; rfl]
    exact this
  have z0 : Z 0 := by show (0 : Nat) < _; exact Nat.two_pow_pos _
  have fin := lc_stp h ((q + a) ^ (n + 1)) hD1 zD1 (some (.d (.list (fr ((q + a) ^ n) (bin q a n))))) (some (.d (lw a (q + a)))) (some (.d (.list (fr ((q + a) ^ (n + 1)) ((bin q a n).map (· * q)))))) (some (.d (.list (fr ((q + a) ^ (n + 1)) ((bin q a n).map (· * a)))))) (bin q a n) 0 z0 fun x hx => by
    obtain ⟨m1, m2, m3, m4⟩ := mulb x hx
    exact ⟨z_nn h (n + 1) (by omega) m1 m2, z_nn h (n + 1) (by omega) m3 m4⟩
  rw [lw_zero hD1] at fin
  have l1 : (fr ((q + a) ^ (n + 1)) ((bin q a n).map (· * q))).length = n + 1 := by simp [fr, hlen]
  have l2 : (fr ((q + a) ^ (n + 1)) ((bin q a n).map (· * a))).length = n + 1 := by simp [fr, hlen]
  have l3 : (fr ((q + a) ^ (n + 1)) (stp q a 0 (bin q a n))).length = n + 2 := by simp [fr, stp_len, hlen]
  have come2 := come (some (.l .own (fr ((q + a) ^ (n + 1)) ((bin q a n).map (· * q)))))
  rw [bin]
  generalize fr ((q + a) ^ (n + 1)) (stp q a 0 (bin q a n)) = res at *
  generalize fr ((q + a) ^ (n + 1)) ((bin q a n).map (· * q)) = sl at *
  generalize fr ((q + a) ^ (n + 1)) ((bin q a n).map (· * a)) = cl at *
  generalize fr ((q + a) ^ n) (bin q a n) = ds at *
  generalize lw a (q + a) = ca at *
  have n1 : sl.length ≤ 16777216 := by omega
  have n2 : cl.length ≤ 16777216 := by omega
  have n3 : res.length ≤ 16777216 := by omega
  have n4 : sl.length + 1 ≤ 16777216 := by omega
  have n5 : 1 + cl.length ≤ 16777216 := by omega
  have n6 : cl.length + 1 ≤ 16777216 := by omega
  simp [m_more_guests, b_more_guests, stay, come2, fin, n1, n2, n3, n4, n5, n6]
end
end K17

set_option Elab.async false
set_option linter.all false
set_option maxRecDepth 100000
set_option maxHeartbeats 4000000
/-! k17: gain_of, best_bookings -/
namespace K17
open PySem FL FL.Com
theorem z0 : Z 0 := by show (0 : Nat) < _; exact Nat.two_pow_pos _
section
variable {q a : Int} (h : Sh q a) {pay cost : Int} (p0 : 0 ≤ pay) (p1 : pay ≤ 100) (c0 : 0 ≤ cost) (c1 : cost ≤ 100)
include h
theorem Fl_bd (r n : Nat) : 0 ≤ Fl q a r n ∧ Fl q a r n ≤ (q + a) ^ n := by
  have := drop_sum_le (bin q a n) r (bin_nn h.hq h.ha n)
  rw [bin_sum rfl n] at this
  exact this
include p0 p1 c0 c1
theorem parts_bd (r n : Nat) : 0 ≤ pay * ((q + a) ^ n - Fl q a r n) ∧ pay * ((q + a) ^ n - Fl q a r n) ≤ 100 * (q + a) ^ n ∧ 0 ≤ cost * Fl q a r n ∧ cost * Fl q a r n ≤ 100 * (q + a) ^ n := by
  obtain ⟨f0, f1⟩ := Fl_bd h r n
  have hp := h.pos n
  generalize Fl q a r n = F at *
  generalize (q + a) ^ n = B at *
  have e1 := Int.mul_le_mul (show pay ≤ 100 from p1) (show B - F ≤ B by omega) (by omega) (by omega)
  have e2 := Int.mul_le_mul (show cost ≤ 100 from c1) f1 f0 (by omega)
  exact ⟨Int.mul_nonneg p0 (by omega), e1, Int.mul_nonneg c0 f0, e2⟩
theorem Gw_bd (r n : Nat) : -(100 * (q + a) ^ n) ≤ Gw q a r pay cost n ∧ Gw q a r pay cost n ≤ 100 * (q + a) ^ n := by
  have := parts_bd h p0 p1 c0 c1 r n
  unfold Gw
  omega
theorem aGw_bd (r n : Nat) : -(100 * (q + a) ^ (n + 1)) ≤ a * Gw q a r pay cost n ∧ a * Gw q a r pay cost n ≤ 100 * (q + a) ^ (n + 1) := by
  obtain ⟨g0, g1⟩ := Gw_bd h p0 p1 c0 c1 r n
  have hp := h.pos n
  have ha := h.ha
  have hq := h.hq
  rw [Int.pow_succ]
  generalize (q + a) ^ n = B at *
  generalize Gw q a r pay cost n = G at *
  have e1 : a * G ≤ a * (100 * B) := Int.mul_le_mul_of_nonneg_left g1 ha
  have e2 : a * (-(100 * B)) ≤ a * G := Int.mul_le_mul_of_nonneg_left g0 ha
  have e3 : a * B ≤ (q + a) * B := Int.mul_le_mul_of_nonneg_right (by omega) (by omega)
  have e4 : a * (100 * B) = 100 * (a * B) := by grind
  have e5 : a * (-(100 * B)) = -(100 * (a * B)) := by grind
  have e6 : B * (q + a) = (q + a) * B := Int.mul_comm _ _
  rw [e6]
  generalize (q + a) * B = X at *
  generalize a * B = Y at *
  omega
theorem Gn_bd (r : Nat) : ∀ n : Nat, -(100 * n * (q + a) ^ n) ≤ Gn q a r pay cost n ∧ Gn q a r pay cost n ≤ 100 * n * (q + a) ^ n
  | 0 => by simp [Gn]
  | n + 1 => by
    obtain ⟨i0, i1⟩ := Gn_bd r n
    obtain ⟨g0, g1⟩ := aGw_bd h p0 p1 c0 c1 r n
    have b0 := h.b0
    rw [Gn]
    have e1 := Int.mul_le_mul_of_nonneg_left i1 (Int.le_of_lt b0)
    have e2 := Int.mul_le_mul_of_nonneg_left i0 (Int.le_of_lt b0)
    have e3 : (q + a) * (100 * n * (q + a) ^ n) = 100 * n * (q + a) ^ (n + 1) := by rw [Int.pow_succ]; grind
    have e4 : (q + a) * (-(100 * n * (q + a) ^ n)) = -(100 * n * (q + a) ^ (n + 1)) := by rw [Int.pow_succ]; grind
    rw [e3] at e1
    rw [e4] at e2
    have e5 : 100 * ((n + 1 : Nat) : Int) * (q + a) ^ (n + 1) = 100 * n * (q + a) ^ (n + 1) + 100 * (q + a) ^ (n + 1) := by rw [Int.natCast_add]; grind
    rw [e5]
    omega
theorem Gn_z (r n : Nat) (hn : n ≤ 100) : Z (Gn q a r pay cost n) := by
  obtain ⟨i0, i1⟩ := Gn_bd h p0 p1 c0 c1 r n
  have hp := h.pos n
  have e : 100 * (n : Int) * (q + a) ^ n ≤ 1000000 * (q + a) ^ n := Int.mul_le_mul_of_nonneg_right (by omega) (by omega)
  exact h.z n (by omega) (by omega) (by omega)
theorem aGw_z (r n : Nat) (hn : n ≤ 100) : Z (a * Gw q a r pay cost n) := by
  obtain ⟨i0, i1⟩ := aGw_bd h p0 p1 c0 c1 r n
  have hp := h.pos (n + 1)
  exact h.z (n + 1) (by omega) (by omega) (by omega)
omit p0 p1 c0 c1 in
/-- the sum of those that are too many -/
theorem full_loop (r n : Nat) (hn : n ≤ 100) (s0 s1 s2 s3 s4 : Option C) : ∃ c, Fr c ∧ forL (gN 6) l_added_by_1 (fr ((q + a) ^ n) ((bin q a n).drop r)) [s0, s1, s2, s3, s4, some (.d (.tuple [.int 0, .int 1])), none] = .nx [s0, s1, s2, s3, s4, some (.d (lw (Fl q a r n) ((q + a) ^ n))), c] := by
  have hD := h.pos n
  have zD := h.zB n (by omega)
  obtain ⟨σ', e, c, fc, hs⟩ := for_run (g := gN 6) (B := l_added_by_1) (ds := fr ((q + a) ^ n) ((bin q a n).drop r)) (σ := [s0, s1, s2, s3, s4, some (.d (lw 0 ((q + a) ^ n))), none])
    (fun i σ => ∃ c, Fr c ∧ σ = [s0, s1, s2, s3, s4, some (.d (lw ((((bin q a n).drop r).take i).sum) ((q + a) ^ n))), c]) ⟨none, .none, by simp⟩ fun i d σ hd' ⟨c, fc, hs⟩ => by
      subst hs
      obtain ⟨hi, hd2⟩ := List.getElem?_eq_some_iff.mp hd'
      have hi' : i < ((bin q a n).drop r).length := by simpa [fr] using hi
      have hdv : d = lw ((bin q a n).drop r)[i] ((q + a) ^ n) := by rw [← hd2]; simp [fr]
      subst hdv
      have nn : ∀ x ∈ (bin q a n).drop r, 0 ≤ x ∧ x ≤ (q + a) ^ n := fun x hx => bin_le h n x (List.mem_of_mem_drop hx)
      have t0 := take_sum_le ((bin q a n).drop r) i fun x hx => (nn x hx).1
      have t1 := drop_sum_le (bin q a n) r (bin_nn h.hq h.ha n)
      rw [bin_sum rfl n] at t1
      have et : ((bin q a n).drop r).take (i + 1) = ((bin q a n).drop r).take i ++ [((bin q a n).drop r)[i]] := by rw [List.take_succ_eq_append_getElem hi']
      have es : (((bin q a n).drop r).take (i + 1)).sum = (((bin q a n).drop r).take i).sum + ((bin q a n).drop r)[i] := by rw [et, List.sum_append, List.sum_cons, List.sum_nil, Int.add_zero]
      have ni := nn _ (List.getElem_mem hi')
      generalize hx : ((bin q a n).drop r)[i] = x at *
      generalize hS : (((bin q a n).drop r).take i).sum = T at *
      have e0 := plus_same (a := T) (b := x) hD (z_nn h n (by omega) t0.1 (by omega)) zD (z_nn h n (by omega) ni.1 ni.2)
      refine ⟨[s0, s1, s2, s3, s4, some (.d (lw T ((q + a) ^ n))), some (.d (lw x ((q + a) ^ n)))], by rcases fc with rfl | ⟨x, rfl⟩ <;> simp, [s0, s1, s2, s3, s4, some (.d (lw (T + x) ((q + a) ^ n))), some (.d (lw x ((q + a) ^ n)))], .inl ?_, _, Fr.d, by rw [es]⟩
      simp [l_added_by_1, e0]
  rw [lw_zero hD] at e
  have hlen : (fr ((q + a) ^ n) ((bin q a n).drop r)).length = ((bin q a n).drop r).length := by simp [fr]
  rw [hlen, List.take_length] at hs
  exact ⟨c, fc, by rw [e, hs]; rfl⟩
theorem added_eq (r n : Nat) (hn : n ≤ 99) : m_added_by [I r, some (.d (.list (fr ((q + a) ^ n) (bin q a n)))), some (.d (lw a (q + a))), I pay, I cost] = .ok (.d (lw (a * Gw q a r pay cost n) ((q + a) ^ (n + 1)))) [none, none, none, none, none] := by
  have hD := h.pos n
  have zD := h.zB n (by omega)
  obtain ⟨c, fc, e1⟩ := full_loop h r n (by omega) (I r) (some (.d (.list (fr ((q + a) ^ n) (bin q a n))))) (some (.d (lw a (q + a)))) (I pay) (I cost)
  obtain ⟨f0, f1⟩ := Fl_bd h r n
  obtain ⟨b0, b1, b2, b3⟩ := parts_bd h p0 p1 c0 c1 r n
  have zp : Z pay := h.z 0 (by decide) (by rw [Int.pow_zero]; omega) (by rw [Int.pow_zero]; omega)
  have zc : Z cost := h.z 0 (by decide) (by rw [Int.pow_zero]; omega) (by rw [Int.pow_zero]; omega)
  have z1 : Z 1 := h.z 0 (by decide) (by rw [Int.pow_zero]; omega) (by rw [Int.pow_zero]; omega)
  -- 1 - full
  have m1 := minus_same (a := 1 * (q + a) ^ n) (b := Fl q a r n) hD (by rw [Int.one_mul]; exact zD) zD (z_nn h n (by omega) f0 f1)
  rw [lw_whole hD, Int.one_mul] at m1
  have zr : Z ((q + a) ^ n - Fl q a r n) := z_nn h n (by omega) (by omega) (by omega)
  have t1 := times_eq (a := pay) (D := 1) (b := (q + a) ^ n - Fl q a r n) (E := (q + a) ^ n) (by decide) hD zp z1 zr zD
  rw [lw_one, Int.one_mul] at t1
  have t2 := times_eq (a := cost) (D := 1) (b := Fl q a r n) (E := (q + a) ^ n) (by decide) hD zc z1 (z_nn h n (by omega) f0 f1) zD
  rw [lw_one, Int.one_mul] at t2
  have m2 := minus_same (a := pay * ((q + a) ^ n - Fl q a r n)) (b := cost * Fl q a r n) hD (h.z n (by omega) (by omega) (by omega)) zD (h.z n (by omega) (by omega) (by omega))
  rw [show pay * ((q + a) ^ n - Fl q a r n) - cost * Fl q a r n = Gw q a r pay cost n from rfl] at m2
  obtain ⟨g0, g1⟩ := Gw_bd h p0 p1 c0 c1 r n
  have t3 := times_eq (a := a) (D := q + a) (b := Gw q a r pay cost n) (E := (q + a) ^ n) h.b0 hD h.za h.zb (h.z n (by omega) (by omega) (by omega)) zD
  rw [show (q + a) * (q + a) ^ n = (q + a) ^ (n + 1) by rw [Int.pow_succ, Int.mul_comm]] at t3
  have hcut : cutL (fr ((q + a) ^ n) (bin q a n)) (some (r : Int)) none = fr ((q + a) ^ n) ((bin q a n).drop r) := by rw [cutL_from]; simp [fr]
  generalize lw (a * Gw q a r pay cost n) ((q + a) ^ (n + 1)) = res at *
  generalize lw a (q + a) = ca at *
  generalize lw (Gw q a r pay cost n) ((q + a) ^ n) = v1 at *
  generalize lw (Fl q a r n) ((q + a) ^ n) = v2 at *
  generalize lw (pay * ((q + a) ^ n - Fl q a r n)) ((q + a) ^ n) = v3 at *
  generalize lw (cost * Fl q a r n) ((q + a) ^ n) = v4 at *
  generalize lw ((q + a) ^ n - Fl q a r n) ((q + a) ^ n) = v5 at *
  generalize fr ((q + a) ^ n) ((bin q a n).drop r) = dr at *
  generalize fr ((q + a) ^ n) (bin q a n) = ds at *
  simp [m_added_by, b_added_by, gSl, hcut, e1, m1, t1, t2, m2, t3]
abbrev sg (q a pay cost : Int) (r m : Int) (chs found : Option C) (c7 : Option C) : S := [I r, I m, some (.d (lw a (q + a))), I pay, I cost, chs, found, c7]
theorem gain_step (r j : Nat) (m : Int) (hj : j ≤ 99) (c7 : Option C) :
    l_gain_of_1 (sg q a pay cost r m (some (.l .own (fr ((q + a) ^ j) (bin q a j)))) (some (.d (lw (Gn q a r pay cost j) ((q + a) ^ j)))) c7) = .nx (sg q a pay cost r m (some (.l .own (fr ((q + a) ^ (j + 1)) (bin q a (j + 1))))) (some (.d (lw (Gn q a r pay cost (j + 1)) ((q + a) ^ (j + 1))))) c7) := by
  have hD := h.pos (j + 1)
  have zD := h.zB (j + 1) (by omega)
  have ad := added_eq h p0 p1 c0 c1 r j hj
  have mo := more_eq h j (by omega)
  have sc : lw (Gn q a r pay cost j) ((q + a) ^ j) = lw ((q + a) * Gn q a r pay cost j) ((q + a) ^ (j + 1)) := by
    rw [Int.pow_succ, Int.mul_comm ((q + a) ^ j), lw_scale h.b0]
  have zg : Z ((q + a) * Gn q a r pay cost j) := by
    obtain ⟨i0, i1⟩ := Gn_bd h p0 p1 c0 c1 r j
    have b0 := h.b0
    have e1 := Int.mul_le_mul_of_nonneg_left i1 (Int.le_of_lt b0)
    have e2 := Int.mul_le_mul_of_nonneg_left i0 (Int.le_of_lt b0)
    have e3 : (q + a) * (100 * j * (q + a) ^ j) = 100 * j * (q + a) ^ (j + 1) := by rw [Int.pow_succ]; grind
    have e4 : (q + a) * (-(100 * j * (q + a) ^ j)) = -(100 * j * (q + a) ^ (j + 1)) := by rw [Int.pow_succ]; grind
    rw [e3] at e1
    rw [e4] at e2
    have e : 100 * (j : Int) * (q + a) ^ (j + 1) ≤ 1000000 * (q + a) ^ (j + 1) := Int.mul_le_mul_of_nonneg_right (by omega) (by omega)
    exact h.z (j + 1) (by omega) (by omega) (by omega)
  have pl := plus_same (a := (q + a) * Gn q a r pay cost j) (b := a * Gw q a r pay cost j) hD zg zD (aGw_z h p0 p1 c0 c1 r j (by omega))
  rw [← sc, show (q + a) * Gn q a r pay cost j + a * Gw q a r pay cost j = Gn q a r pay cost (j + 1) from rfl] at pl
  generalize lw (Gn q a r pay cost (j + 1)) ((q + a) ^ (j + 1)) = v1 at *
  generalize lw (Gn q a r pay cost j) ((q + a) ^ j) = v2 at *
  generalize lw (a * Gw q a r pay cost j) ((q + a) ^ (j + 1)) = v3 at *
  generalize fr ((q + a) ^ (j + 1)) (bin q a (j + 1)) = l1 at *
  generalize fr ((q + a) ^ j) (bin q a j) = l0 at *
  simp [l_gain_of_1, ad, pl, mo]
theorem see_ok (r : Nat) (h1 : 1 ≤ r) (h2 : r ≤ 20) : m_see_rooms [I r] = .ok (.d .none) [none] := by
  have e := is_number_eq (.int r) 1 20 rfl
  have : isNum (.int (r : Int)) 1 20 = true := by simp [isNum]; omega
  rw [this] at e
  simp [m_see_rooms, b_see_rooms, e]
theorem gain_eq (r m : Nat) (h1 : 1 ≤ r) (h2 : r ≤ 20) (hm : m ≤ 40) : m_gain_of [I r, I m, some (.d (lw a (q + a))), I pay, I cost] = .ok (.d (lw (Gn q a r pay cost m) ((q + a) ^ m))) [none, none, none, none, none] := by
  have se := see_ok h p0 p1 c0 c1 r h1 h2
  have e := is_number_eq (.int m) 0 40 rfl
  have hm' : isNum (.int (m : Int)) 0 40 = true := by simp [isNum]; omega
  rw [hm'] at e
  obtain ⟨σ', e2, c7, f7, hs⟩ := for_run (g := gN 7) (B := l_gain_of_1) (ds := rngL 0 m) (σ := sg q a pay cost r m (some (.l .own (fr ((q + a) ^ 0) (bin q a 0)))) (some (.d (lw (Gn q a r pay cost 0) ((q + a) ^ 0)))) none)
    (fun i σ => ∃ c7, Fr c7 ∧ σ = sg q a pay cost r m (some (.l .own (fr ((q + a) ^ i) (bin q a i)))) (some (.d (lw (Gn q a r pay cost i) ((q + a) ^ i)))) c7) ⟨none, .none, rfl⟩ fun i d σ hd ⟨c7, f7, hs⟩ => by
      subst hs
      have hi : i < m := by
        have := (List.getElem?_eq_some_iff.mp hd).1
        simpa [rngL] using this
      exact ⟨sg q a pay cost r m (some (.l .own (fr ((q + a) ^ i) (bin q a i)))) (some (.d (lw (Gn q a r pay cost i) ((q + a) ^ i)))) (some (.d d)), by rcases f7 with rfl | ⟨x, rfl⟩ <;> simp, _, .inl (gain_step h p0 p1 c0 c1 r i m (by omega) _), some (.d d), Fr.d, rfl⟩
  rw [rngL_len] at hs
  subst hs
  have i0 : fr ((q + a) ^ 0) (bin q a 0) = [.tuple [.int 1, .int 1]] := by simp [fr, bin, lw_one]
  have i1 : lw (Gn q a r pay cost 0) ((q + a) ^ 0) = .tuple [.int 0, .int 1] := by rw [Int.pow_zero, lw_one]; rfl
  rw [i0, i1] at e2
  have rm := rOk_nat m (by omega)
  have key : b_gain_of [I r, I m, some (.d (lw a (q + a))), I pay, I cost, none, none, none] = .ret (.d (lw (Gn q a r pay cost m) ((q + a) ^ m))) (sg q a pay cost r m (some (.l .own (fr ((q + a) ^ m) (bin q a m)))) (some (.d (lw (Gn q a r pay cost m) ((q + a) ^ m)))) c7) := by
    unfold b_gain_of
    rw [seq_eq (σ1 := [I r, I m, some (.d (lw a (q + a))), I pay, I cost, none, none, none]) (by simp [se])]
    rw [seq_eq (σ1 := [I r, I m, some (.d (lw a (q + a))), I pay, I cost, none, none, none]) (by simp [e])]
    rw [seq_eq (σ1 := sg q a pay cost r m (some (.l .own [.tuple [.int 1, .int 1]])) (some (.d (.tuple [.int 0, .int 1]))) none) (by simp)]
    rw [seq_eq (σ1 := sg q a pay cost r m (some (.l .own (fr ((q + a) ^ m) (bin q a m)))) (some (.d (lw (Gn q a r pay cost m) ((q + a) ^ m)))) c7) (by
      rw [sFor_eq (iRange1_eq (j := (m : Int)) (σ1 := sg q a pay cost r m (some (.l .own [.tuple [.int 1, .int 1]])) (some (.d (.tuple [.int 0, .int 1]))) none) (by simp) rm)]
      exact e2)]
    simp
  have := funX_ret (n := 8) (B := b_gain_of) (σ := [I r, I m, some (.d (lw a (q + a))), I pay, I cost]) key
  exact this
end
/-! out of range -/
theorem see_bad (r : Int) (h : ¬ (1 ≤ r ∧ r ≤ 20)) : m_see_rooms [I r] = .exc "OutOfRange" [none] := by
  have e := is_number_eq (.int r) 1 20 rfl
  have : isNum (.int r) 1 20 = false := by simp [isNum]; omega
  rw [this] at e
  simp [m_see_rooms, b_see_rooms, e]
theorem gain_bad1 (r m pay cost : Int) (ca : FL.D) (h : ¬ (1 ≤ r ∧ r ≤ 20)) : m_gain_of [I r, I m, some (.d ca), I pay, I cost] = .exc "OutOfRange" [none, none, none, none, none] := by
  have e := see_bad r h
  simp [m_gain_of, b_gain_of, e]
theorem best_bad (r pay cost : Int) (ca : FL.D) (h : ¬ (1 ≤ r ∧ r ≤ 20)) : m_best_bookings [I r, some (.d ca), I pay, I cost] = .exc "OutOfRange" [none, none, none, none] := by
  have e := see_bad r h
  simp [m_best_bookings, b_best_bookings, e]
theorem gain_bad2 {q a : Int} (hs : Sh q a) (r : Nat) (m pay cost : Int) (ca : FL.D) (h1 : 1 ≤ r) (h2 : r ≤ 20) (h : ¬ (0 ≤ m ∧ m ≤ 40)) : m_gain_of [I r, I m, some (.d ca), I pay, I cost] = .exc "OutOfRange" [none, none, none, none, none] := by
  have se := see_ok hs (pay := 0) (cost := 0) (by decide) (by decide) (by decide) (by decide) r h1 h2
  have e := is_number_eq (.int m) 0 40 rfl
  have : isNum (.int m) 0 40 = false := by simp [isNum]; omega
  rw [this] at e
  simp [m_gain_of, b_gain_of, se, e]
end K17

set_option Elab.async false
set_option linter.all false
set_option maxRecDepth 100000
set_option maxHeartbeats 4000000
namespace FL
open PySem
theorem forL_stop {g : G} {B : S → Out} (P : Nat → S → Prop) (Qr : R → S → Prop) : ∀ (ds : List D) (n k : Nat) (σ : S), k < ds.length → P n σ →
    (∀ i d σ, i < k → ds[i]? = some d → P (n + i) σ → ∃ σ1, g d σ = some σ1 ∧ ∃ σ2, (B σ1 = .nx σ2 ∨ B σ1 = .cnt σ2) ∧ P (n + i + 1) σ2) →
    (∀ d σ, ds[k]? = some d → P (n + k) σ → ∃ σ1, g d σ = some σ1 ∧ ∃ r σ2, B σ1 = .ret r σ2 ∧ Qr r σ2) → ∃ r σ2, forL g B ds σ = .ret r σ2 ∧ Qr r σ2
  | [], n, k, σ, hk, _, _, _ => by simp at hk
  | d :: ds, n, 0, σ, hk, h, _, fin => by
    obtain ⟨σ1, e1, r, σ2, e2, q⟩ := fin d σ rfl h
    refine ⟨r, σ2, ?_, q⟩
    unfold forL
    rw [e1]
    simp only [e2]
  | d :: ds, n, k + 1, σ, hk, h, st, fin => by
    obtain ⟨σ1, e1, σ2, e2, h2⟩ := st 0 d σ (by omega) rfl h
    obtain ⟨r, σ3, e3, q⟩ := forL_stop P Qr ds (n + 1) k σ2 (by simpa using hk) h2 (fun i d σ hi hd hP => by
      obtain ⟨σ1, q1, σ2, q2, q3⟩ := st (i + 1) d σ (by omega) (by simpa using hd) (by rw [show n + (i + 1) = n + 1 + i by omega]; exact hP)
      exact ⟨σ1, q1, σ2, q2, by rw [show n + 1 + i + 1 = n + (i + 1) + 1 by omega]; exact q3⟩) fun d σ hd hP => fin d σ (by simpa using hd) (by rw [show n + (k + 1) = n + 1 + k by omega]; exact hP)
    refine ⟨r, σ3, ?_, q⟩
    unfold forL
    rw [e1]
    rcases e2 with e2 | e2 <;> simp only [e2] <;> exact e3
theorem for_stop {g : G} {B : S → Out} {ds : List D} {σ : S} (P : Nat → S → Prop) (Qr : R → S → Prop) (k : Nat) (hk : k < ds.length) (h : P 0 σ)
    (st : ∀ i d σ, i < k → ds[i]? = some d → P i σ → ∃ σ1, g d σ = some σ1 ∧ ∃ σ2, (B σ1 = .nx σ2 ∨ B σ1 = .cnt σ2) ∧ P (i + 1) σ2)
    (fin : ∀ d σ, ds[k]? = some d → P k σ → ∃ σ1, g d σ = some σ1 ∧ ∃ r σ2, B σ1 = .ret r σ2 ∧ Qr r σ2) : ∃ r σ2, forL g B ds σ = .ret r σ2 ∧ Qr r σ2 :=
  forL_stop P Qr ds 0 k σ hk h (fun i d σ hi hd hp => by rw [Nat.zero_add] at hp ⊢; exact st i d σ hi hd hp) fun d σ hd hp => by rw [Nat.zero_add] at hp; exact fin d σ hd hp
theorem rngL_get {lo : Int} {n i : Nat} {d : D} (h : (rngL lo n)[i]? = some d) : i < n ∧ d = .int (lo + i) := by
  obtain ⟨hi, hx⟩ := List.getElem?_eq_some_iff.mp h
  refine ⟨by simpa [rngL] using hi, ?_⟩
  rw [← hx]
  simp [rngL]
theorem first_not (P : Nat → Prop) : ∀ n : Nat, ∃ m, m ≤ n ∧ (∀ i, i < m → P i) ∧ (m < n → ¬ P m)
  | 0 => ⟨0, Nat.le_refl _, fun i hi => by omega, fun h => by omega⟩
  | n + 1 => by
    obtain ⟨m, h1, h2, h3⟩ := first_not P n
    by_cases hm : m < n
    · exact ⟨m, by omega, h2, fun _ => h3 hm⟩
    · have : m = n := by omega
      subst this
      by_cases hp : P m
      · exact ⟨m + 1, Nat.le_refl _, fun i hi => by
          by_cases hi2 : i < m
          · exact h2 i hi2
          · rw [show i = m by omega]; exact hp, fun h => by omega⟩
      · exact ⟨m, by omega, h2, fun _ => hp⟩
end FL
/-! k17: best_bookings, the law's asking -/
namespace K17
open PySem FL FL.Com
section
variable {q a : Int} (h : Sh q a) {pay cost : Int} (p0 : 0 ≤ pay) (p1 : pay ≤ 100) (c0 : 0 ≤ cost) (c1 : cost ≤ 100)
include h p0 p1 c0 c1
theorem best_test (r j : Nat) (hj : j ≤ 99) : m_less [some (.d (.tuple [.int 0, .int 1])), some (.d (lw (a * Gw q a r pay cost j) ((q + a) ^ (j + 1))))] = .ok (.d (.bool (decide (0 < a * Gw q a r pay cost j)))) [none, none] := by
  have hD := h.pos (j + 1)
  have := less_same (a := 0) (b := a * Gw q a r pay cost j) hD z0 (h.zB (j + 1) (by omega)) (aGw_z h p0 p1 c0 c1 r j (by omega))
  rw [lw_zero hD] at this
  exact this
theorem best_eq (r m0 : Nat) (h1 : 1 ≤ r) (h2 : r ≤ 20) (hm : m0 ≤ 40) (hpos : ∀ i, i < m0 → 0 < a * Gw q a r pay cost i) (hstop : m0 < 40 → ¬ 0 < a * Gw q a r pay cost m0) : m_best_bookings [I r, some (.d (lw a (q + a))), I pay, I cost] = .ok (.d (.int m0)) [none, none, none, none] := by
  have se := see_ok h p0 p1 c0 c1 r h1 h2
  have r40 := rOk_nat 40 (by decide)
  have i0 : fr ((q + a) ^ 0) (bin q a 0) = [.tuple [.int 1, .int 1]] := by simp [fr, bin, lw_one]
  have st : ∀ (i : Nat) (d : FL.D) (σ : S), i < m0 → (rngL 0 40)[i]? = some d → (∃ c5, Fr c5 ∧ σ = [I r, some (.d (lw a (q + a))), I pay, I cost, some (.l .own (fr ((q + a) ^ i) (bin q a i))), c5]) →
      ∃ σ1, gN 5 d σ = some σ1 ∧ ∃ σ2, (l_best_bookings_1 σ1 = .nx σ2 ∨ l_best_bookings_1 σ1 = .cnt σ2) ∧ ∃ c5, Fr c5 ∧ σ2 = [I r, some (.d (lw a (q + a))), I pay, I cost, some (.l .own (fr ((q + a) ^ (i + 1)) (bin q a (i + 1)))), c5] := fun i d σ hi hd ⟨c5, f5, hs⟩ => by
    subst hs
    have ad := added_eq h p0 p1 c0 c1 r i (by omega)
    have te := best_test h p0 p1 c0 c1 r i (by omega)
    have mo := more_eq h i (by omega)
    rw [decide_eq_true (hpos i hi)] at te
    refine ⟨[I r, some (.d (lw a (q + a))), I pay, I cost, some (.l .own (fr ((q + a) ^ i) (bin q a i))), some (.d d)], by rcases f5 with rfl | ⟨x, rfl⟩ <;> simp, _, .inl ?_, some (.d d), Fr.d, rfl⟩
    generalize fr ((q + a) ^ (i + 1)) (bin q a (i + 1)) = l1 at *
    generalize fr ((q + a) ^ i) (bin q a i) = l0 at *
    generalize lw (a * Gw q a r pay cost i) ((q + a) ^ (i + 1)) = v at *
    generalize lw a (q + a) = ca at *
    simp [l_best_bookings_1, ad, te, mo]
  have b0 : ∀ c, b_best_bookings [I r, some (.d (lw a (q + a))), I pay, I cost, none, none] = c ↔ sSeq (sFor (iRange1 (aCons (eC (.int 40)) (aNil))) (gN 5) (l_best_bookings_1)) (sRet (eC (.int 40))) [I r, some (.d (lw a (q + a))), I pay, I cost, some (.l .own (fr ((q + a) ^ 0) (bin q a 0))), none] = c := fun c => by
    unfold b_best_bookings
    rw [seq_eq (σ1 := [I r, some (.d (lw a (q + a))), I pay, I cost, none, none]) (by simp [se])]
    rw [seq_eq (σ1 := [I r, some (.d (lw a (q + a))), I pay, I cost, some (.l .own (fr ((q + a) ^ 0) (bin q a 0))), none]) (by rw [i0]; simp)]
  by_cases hlt : m0 < 40
  · obtain ⟨rr, σ2, e, hr, hl⟩ := for_stop (g := gN 5) (B := l_best_bookings_1) (ds := rngL 0 40) (σ := [I r, some (.d (lw a (q + a))), I pay, I cost, some (.l .own (fr ((q + a) ^ 0) (bin q a 0))), none])
      (fun i σ => ∃ c5, Fr c5 ∧ σ = [I r, some (.d (lw a (q + a))), I pay, I cost, some (.l .own (fr ((q + a) ^ i) (bin q a i))), c5]) (fun rr σ2 => rr = .d (.int m0) ∧ σ2.length = 6) m0 (by rw [rngL_len]; exact hlt) ⟨none, .none, rfl⟩ st fun d σ hd ⟨c5, f5, hs⟩ => by
        subst hs
        obtain ⟨_, rfl⟩ := rngL_get hd
        rw [Int.zero_add]
        have ad := added_eq h p0 p1 c0 c1 r m0 (by omega)
        have te := best_test h p0 p1 c0 c1 r m0 (by omega)
        rw [decide_eq_false (hstop hlt)] at te
        refine ⟨[I r, some (.d (lw a (q + a))), I pay, I cost, some (.l .own (fr ((q + a) ^ m0) (bin q a m0))), I m0], by rcases f5 with rfl | ⟨x, rfl⟩ <;> simp, .d (.int m0), [I r, some (.d (lw a (q + a))), I pay, I cost, some (.d (.list (fr ((q + a) ^ m0) (bin q a m0)))), I m0], ?_, rfl, rfl⟩
        generalize fr ((q + a) ^ m0) (bin q a m0) = l0 at *
        generalize lw (a * Gw q a r pay cost m0) ((q + a) ^ (m0 + 1)) = v at *
        generalize lw a (q + a) = ca at *
        simp [l_best_bookings_1, ad, te]
    subst hr
    have key : b_best_bookings [I r, some (.d (lw a (q + a))), I pay, I cost, none, none] = .ret (.d (.int m0)) σ2 := by
      rw [b0]
      unfold sSeq
      rw [sFor_eq (iRange1_eq (j := 40) (σ1 := [I r, some (.d (lw a (q + a))), I pay, I cost, some (.l .own (fr ((q + a) ^ 0) (bin q a 0))), none]) (by simp) r40)]
      rw [show (40 : Int).toNat = 40 from rfl, e]
    have := funX_ret (n := 6) (B := b_best_bookings) (σ := [I r, some (.d (lw a (q + a))), I pay, I cost]) key
    match σ2, hl with
    | [_, _, _, _, _, _], _ => exact this
  · have : m0 = 40 := by omega
    subst this
    obtain ⟨σ', e, c5, f5, hs⟩ := for_run (g := gN 5) (B := l_best_bookings_1) (ds := rngL 0 40) (σ := [I r, some (.d (lw a (q + a))), I pay, I cost, some (.l .own (fr ((q + a) ^ 0) (bin q a 0))), none])
      (fun i σ => ∃ c5, Fr c5 ∧ σ = [I r, some (.d (lw a (q + a))), I pay, I cost, some (.l .own (fr ((q + a) ^ i) (bin q a i))), c5]) ⟨none, .none, rfl⟩ fun i d σ hd hp => st i d σ (rngL_get hd).1 hd hp
    have key : b_best_bookings [I r, some (.d (lw a (q + a))), I pay, I cost, none, none] = .ret (.d (.int 40)) σ' := by
      rw [b0]
      rw [seq_eq (σ1 := σ') (by
        rw [sFor_eq (iRange1_eq (j := 40) (σ1 := [I r, some (.d (lw a (q + a))), I pay, I cost, some (.l .own (fr ((q + a) ^ 0) (bin q a 0))), none]) (by simp) r40)]
        exact e)]
      simp
    subst hs
    exact funX_ret (n := 6) (B := b_best_bookings) (σ := [I r, some (.d (lw a (q + a))), I pay, I cost]) key
end
/-! _law_told -/
theorem lk : List.lookup ("OutOfRange" : Str) t_InnError = some true := by decide
theorem lk2 : List.lookup ("OutOfRange" : Str) t_OutOfRange = some true := by decide
theorem told0 {r m pay cost : Int} {ca v : FL.D} (e : m_gain_of [I r, I m, some (.d ca), I pay, I cost] = .ok (.d v) [none, none, none, none, none]) : m__law_told [I 0, I r, I m, some (.d ca), I pay, I cost] = .ok (.d v) [none, none, none, none, none, none] := by
  simp [m__law_told, b__law_told, y__law_told_1, e]
theorem told1 {r m pay cost : Int} {ca v : FL.D} (e : m_best_bookings [I r, some (.d ca), I pay, I cost] = .ok (.d v) [none, none, none, none]) : m__law_told [I 1, I r, I m, some (.d ca), I pay, I cost] = .ok (.d v) [none, none, none, none, none, none] := by
  simp [m__law_told, b__law_told, y__law_told_1, e]
theorem told0x {r m pay cost : Int} {ca : FL.D} (e : m_gain_of [I r, I m, some (.d ca), I pay, I cost] = .exc "OutOfRange" [none, none, none, none, none]) : m__law_told [I 0, I r, I m, some (.d ca), I pay, I cost] = .ok (.d (.str "range")) [none, none, none, none, none, none] := by
  have l1 := lk
  have l2 := lk2
  simp only [t_InnError, t_OutOfRange] at l1 l2
  simp [m__law_told, b__law_told, y__law_told_1, h__law_told_1, e, l1, l2]
theorem told1x {r m pay cost : Int} {ca : FL.D} (e : m_best_bookings [I r, some (.d ca), I pay, I cost] = .exc "OutOfRange" [none, none, none, none]) : m__law_told [I 1, I r, I m, some (.d ca), I pay, I cost] = .ok (.d (.str "range")) [none, none, none, none, none, none] := by
  have l1 := lk
  have l2 := lk2
  simp only [t_InnError, t_OutOfRange] at l1 l2
  simp [m__law_told, b__law_told, y__law_told_1, h__law_told_1, e, l1, l2]
end K17

set_option Elab.async false
set_option linter.all false
set_option maxRecDepth 100000
set_option maxHeartbeats 4000000
/-! k17: the law's counts -/
namespace K17
open PySem FL FL.Com
section
variable {q a : Int} (h : Sh q a)
include h
theorem Sh.zz (n : Nat) (hn : n ≤ 300) {x : Int} (h1 : 0 ≤ x) (h2 : x ≤ 2 ^ 50 * (q + a) ^ n) : Z x := by
  have hb := h.bd n hn
  have hp := h.pos n
  generalize (q + a) ^ n = B at *
  have h3 : x.natAbs ≤ 2 ^ 50 * 20 ^ 300 := by
    have e : ((20 : Int) ^ 300) = ((20 ^ 300 : Nat) : Int) := by rw [Int.natCast_pow]; rfl
    rw [e] at hb
    generalize (20 : Nat) ^ 300 = M at *
    omega
  exact Nat.lt_of_le_of_lt h3 (by decide)
theorem a_le : a ≤ q + a := by have := h.hq; omega
theorem q_le : q ≤ q + a := by have := h.ha; omega
omit h in
theorem pow_mono {x y : Int} (h0 : 0 ≤ x) (h1 : x ≤ y) : ∀ n : Nat, 0 ≤ x ^ n ∧ x ^ n ≤ y ^ n
  | 0 => by simp
  | n + 1 => by
    obtain ⟨i0, i1⟩ := pow_mono h0 h1 n
    rw [Int.pow_succ, Int.pow_succ]
    exact ⟨Int.mul_nonneg i0 h0, Int.mul_le_mul i1 h1 h0 (Int.le_trans i0 i1)⟩
theorem za_pow (n : Nat) (hn : n ≤ 300) : Z (a ^ n) := by
  obtain ⟨i0, i1⟩ := pow_mono h.ha (a_le h) n
  exact z_nn h n hn i0 i1
theorem zq_pow (n : Nat) (hn : n ≤ 300) : Z (q ^ n) := by
  obtain ⟨i0, i1⟩ := pow_mono h.hq (q_le h) n
  exact z_nn h n hn i0 i1
theorem ch_a (n k : Nat) (hn : n ≤ 50) : 0 ≤ (ch n k : Int) * a ^ k ∧ (ch n k : Int) * a ^ k ≤ 2 ^ 50 * (q + a) ^ k := by
  obtain ⟨i0, i1⟩ := pow_mono h.ha (a_le h) k
  have c1 : ch n k ≤ 2 ^ 50 := Nat.le_trans (ch_le n k) (Nat.pow_le_pow_right (by decide) hn)
  have c2 : (ch n k : Int) ≤ 2 ^ 50 := by
    have : ((ch n k : Nat) : Int) ≤ ((2 ^ 50 : Nat) : Int) := Int.ofNat_le.mpr c1
    rwa [Int.natCast_pow] at this
  exact ⟨Int.mul_nonneg (by omega) i0, Int.mul_le_mul c2 i1 i0 (by decide)⟩
abbrev row1 (q a : Int) (n i : Nat) : List FL.D := (List.range i).map fun j => lw ((ch n j : Int) * a ^ j) ((q + a) ^ j)
abbrev sk (q a : Int) (n : Nat) (rows : List FL.D) (ways : Int) (power : FL.D) (c6 : Option C) : S := [some (.d (lw a (q + a))), I n, some (.d (lw q (q + a))), some (.l .own rows), I ways, some (.d power), c6]
theorem counts_step (n k : Nat) (hn : n ≤ 50) (hk : k ≤ n) : l__law_counts_1 (sk q a n (row1 q a n k) (ch n k) (lw (a ^ k) ((q + a) ^ k)) (I k)) = .nx (sk q a n (row1 q a n (k + 1)) (ch n (k + 1)) (lw (a ^ (k + 1)) ((q + a) ^ (k + 1))) (I k)) := by
  have hD := h.pos k
  have zD := h.zB k (by omega)
  obtain ⟨i0, i1⟩ := ch_a h n k hn
  have zc : Z (ch n k : Int) := by
    have c1 : ch n k ≤ 2 ^ 50 := Nat.le_trans (ch_le n k) (Nat.pow_le_pow_right (by decide) hn)
    exact Nat.lt_of_le_of_lt (show ((ch n k : Nat) : Int).natAbs ≤ 2 ^ 50 by rw [Int.natAbs_natCast]; exact c1) (by decide)
  have z1 : Z 1 := by show 1 < _; exact Nat.one_lt_two_pow (by decide)
  have t1 := law_times_eq (a := (ch n k : Int)) (D := 1) (b := a ^ k) (E := (q + a) ^ k) (by decide) hD zc z1 (za_pow h k (by omega)) zD
  rw [lw_one, Int.one_mul] at t1
  have t2 := law_times_eq (a := a ^ k) (D := (q + a) ^ k) (b := a) (E := q + a) hD h.b0 (za_pow h k (by omega)) zD h.za h.zb
  rw [← Int.pow_succ, ← Int.pow_succ] at t2
  have m1 : mulOk (ch n k : Int) ((n : Int) - k) = true := mulOk_r _ _ (by omega)
  have d1 := divOk_of ((ch n k : Int) * ((n : Int) - k)) ((k : Int) + 1) (by omega) (by omega)
  have e1 : (ch n k : Int) * ((n : Int) - k) / ((k : Int) + 1) = (ch n (k + 1) : Int) := by
    have := ch_step n k
    have e2 : (ch n k : Int) * ((n : Int) - k) = (ch n (k + 1) : Int) * ((k : Int) + 1) := by
      have e3 : ((n : Int) - k) = ((n - k : Nat) : Int) := by omega
      have e4 : ((k : Int) + 1) = ((k + 1 : Nat) : Int) := by omega
      rw [e3, e4, ← Int.natCast_mul, ← Int.natCast_mul, this]
    rw [e2]
    exact Int.mul_ediv_cancel _ (by omega)
  have hl : (row1 q a n k).length = k := by simp
  have er : row1 q a n (k + 1) = row1 q a n k ++ [lw ((ch n k : Int) * a ^ k) ((q + a) ^ k)] := by simp [row1, List.range_succ]
  rw [er]
  have hz : k < 16777216 := by omega
  generalize row1 q a n k = rw_ at *
  generalize lw ((ch n k : Int) * a ^ k) ((q + a) ^ k) = v1 at *
  generalize lw (a ^ (k + 1)) ((q + a) ^ (k + 1)) = v2 at *
  generalize lw (a ^ k) ((q + a) ^ k) = v3 at *
  have hz2 : rw_.length < 16777216 := by omega
  simp [l__law_counts_1, t1, t2, m1, d1, e1, hz2]
abbrev ent (q a : Int) (n i j : Nat) : FL.D := if n < i + j then lw ((ch n j : Int) * a ^ j * q ^ (n - j)) ((q + a) ^ n) else lw ((ch n j : Int) * a ^ j) ((q + a) ^ j)
abbrev row2 (q a : Int) (n i : Nat) : List FL.D := (List.range (n + 1)).map fun j => ent q a n i j
theorem back_step (n i : Nat) (w : Int) (hn : n ≤ 50) (hi : i ≤ n) : l__law_counts_2 (sk q a n (row2 q a n i) w (lw (q ^ i) ((q + a) ^ i)) (I ((n : Int) + i * -1))) = .nx (sk q a n (row2 q a n (i + 1)) w (lw (q ^ (i + 1)) ((q + a) ^ (i + 1))) (I ((n : Int) + i * -1))) := by
  have ek : (n : Int) + i * -1 = ((n - i : Nat) : Int) := by omega
  rw [ek]
  generalize hk : n - i = k
  have hki : k + i = n := by omega
  have hDk := h.pos k
  have zDk := h.zB k (by omega)
  have hDi := h.pos i
  have zDi := h.zB i (by omega)
  obtain ⟨i0, i1⟩ := ch_a h n k hn
  have t1 := law_times_eq (a := (ch n k : Int) * a ^ k) (D := (q + a) ^ k) (b := q ^ i) (E := (q + a) ^ i) hDk hDi (h.zz k (by omega) i0 i1) zDk (zq_pow h i (by omega)) zDi
  rw [← Int.pow_add, hki] at t1
  have t2 := law_times_eq (a := q ^ i) (D := (q + a) ^ i) (b := q) (E := q + a) hDi h.b0 (zq_pow h i (by omega)) zDi h.zq h.zb
  rw [← Int.pow_succ, ← Int.pow_succ] at t2
  have hlen : (row2 q a n i).length = n + 1 := by simp
  have hat : L2.atI (row2 q a n i) ((k : Nat) : Int) = some (lw ((ch n k : Int) * a ^ k) ((q + a) ^ k)) := by
    rw [atI_n _ k (by rw [hlen]; omega)]
    have : ¬ n < i + k := by omega
    simp [row2, ent, this]
  have hix : L2.ixN (n + 1) ((k : Nat) : Int) = some k := by
    unfold L2.ixN
    rw [if_pos (by omega), if_pos (by omega)]
    rfl
  have hset : (row2 q a n i).set k (lw ((ch n k : Int) * a ^ k * q ^ i) ((q + a) ^ n)) = row2 q a n (i + 1) := by
    apply List.ext_getElem
    · simp
    · intro j h1 h2
      have hj : j < n + 1 := by simpa using h2
      by_cases hjk : j = k
      · subst hjk
        have c1 : n < i + 1 + j := by omega
        have e2 : n - j = i := by omega
        simp [row2, ent, c1, e2]
      · have c1 : n < i + j ↔ n < i + 1 + j := by omega
        rw [List.getElem_set_ne (fun z => hjk z.symm)]
        simp only [row2, ent, List.getElem_map, List.getElem_range]
        by_cases c2 : n < i + j
        · rw [if_pos c2, if_pos (c1.mp c2)]
        · rw [if_neg c2, if_neg fun z => c2 (c1.mpr z)]
  rw [← hset]
  generalize row2 q a n i = rw_ at *
  generalize lw ((ch n k : Int) * a ^ k * q ^ i) ((q + a) ^ n) = v1 at *
  generalize lw ((ch n k : Int) * a ^ k) ((q + a) ^ k) = v0 at *
  generalize lw (q ^ (i + 1)) ((q + a) ^ (i + 1)) = v2 at *
  generalize lw (q ^ i) ((q + a) ^ i) = v3 at *
  simp [l__law_counts_2, hat, t1, t2, hlen, hix]
omit h in
theorem row2_fin (n : Nat) : row2 q a n (n + 1) = fr ((q + a) ^ n) (bin q a n) := by
  apply List.ext_getElem
  · simp [fr, bin_len]
  · intro j h1 h2
    have hj : j < n + 1 := by simpa using h1
    have hb : j < (bin q a n).length := by rw [bin_len]; exact hj
    have c1 : n < n + 1 + j := by omega
    have := bin_at q a n j
    rw [show (bin q a n).getD j 0 = (bin q a n)[j] by simp [List.getD, hb]] at this
    simp [row2, ent, c1, fr, this]
omit h in
theorem row2_start (n : Nat) : row2 q a n 0 = row1 q a n (n + 1) := by
  apply List.ext_getElem
  · simp
  · intro j h1 h2
    have hj : j < n + 1 := by simpa using h1
    have c1 : ¬ n < 0 + j := by omega
    simp [row2, ent, row1]
    omega
theorem counts_eq (n : Nat) (hn : n ≤ 40) : m__law_counts [some (.d (lw a (q + a))), I n] = .ok (.own (fr ((q + a) ^ n) (bin q a n))) [none, none] := by
  have re := law_rest_eq h
  obtain ⟨σ1, e1, c6, f6, hs1⟩ := for_run (g := gN 6) (B := l__law_counts_1) (ds := rngL 0 (n + 1)) (σ := sk q a n (row1 q a n 0) (ch n 0) (lw (a ^ 0) ((q + a) ^ 0)) none)
    (fun i σ => ∃ c6, Fr c6 ∧ σ = sk q a n (row1 q a n i) (ch n i) (lw (a ^ i) ((q + a) ^ i)) c6) ⟨none, .none, rfl⟩ fun i d σ hd ⟨c6, f6, hs⟩ => by
      subst hs
      obtain ⟨hi, rfl⟩ := rngL_get hd
      rw [Int.zero_add]
      exact ⟨sk q a n (row1 q a n i) (ch n i) (lw (a ^ i) ((q + a) ^ i)) (I i), by rcases f6 with rfl | ⟨x, rfl⟩ <;> simp, _, .inl (counts_step h n i (by omega) (by omega)), I i, Fr.d, rfl⟩
  rw [rngL_len] at hs1
  subst hs1
  have rc : rngC (n : Int) (-1) (n + 1) = (List.range (n + 1)).map fun i => PyData.int ((n : Int) + (i : Nat) * -1) := rfl
  obtain ⟨σ2, e2, c6', f6', hs2⟩ := for_run (g := gN 6) (B := l__law_counts_2) (ds := rngC (n : Int) (-1) (n + 1)) (σ := sk q a n (row2 q a n 0) (ch n (n + 1)) (lw (q ^ 0) ((q + a) ^ 0)) c6)
    (fun i σ => ∃ c6, Fr c6 ∧ σ = sk q a n (row2 q a n i) (ch n (n + 1)) (lw (q ^ i) ((q + a) ^ i)) c6) ⟨c6, f6, rfl⟩ fun i d σ hd ⟨c6, f6, hs⟩ => by
      subst hs
      rw [rc, List.getElem?_map] at hd
      obtain ⟨j, hj, rfl⟩ := Option.map_eq_some_iff.mp hd
      obtain ⟨hj1, hj2⟩ := List.getElem?_eq_some_iff.mp hj
      have hji : j = i := by rw [← hj2]; simp
      subst hji
      have hi : j < n + 1 := by simpa using hj1
      exact ⟨sk q a n (row2 q a n j) (ch n (n + 1)) (lw (q ^ j) ((q + a) ^ j)) (I ((n : Int) + (j : Nat) * -1)), by rcases f6 with rfl | ⟨x, rfl⟩ <;> simp, _, .inl (back_step h n j _ (by omega) (by omega)), I ((n : Int) + (j : Nat) * -1), Fr.d, rfl⟩
  have lc : (rngC (n : Int) (-1) (n + 1)).length = n + 1 := by simp [rngC]
  rw [lc] at hs2
  subst hs2
  rw [row2_start] at e2
  rw [row2_fin] at e2
  have i1 : lw (a ^ 0) ((q + a) ^ 0) = .tuple [.int 1, .int 1] := by rw [Int.pow_zero, Int.pow_zero, lw_one]
  have i2 : lw (q ^ 0) ((q + a) ^ 0) = .tuple [.int 1, .int 1] := by rw [Int.pow_zero, Int.pow_zero, lw_one]
  have i3 : row1 q a n 0 = [] := rfl
  have i4 : ((ch n 0 : Nat) : Int) = 1 := by rw [ch_zero]; rfl
  rw [i1, i3, i4] at e1
  rw [i2] at e2
  have r1 := rOk_int ((n : Int) + 1) (by omega) (by omega)
  have r2 := rOk_int (n : Int) (by omega) (by omega)
  have r3 := rOk_int (-1) (by omega) (by omega)
  have key : b__law_counts [some (.d (lw a (q + a))), I n, none, none, none, none, none] = .ret (.own (fr ((q + a) ^ n) (bin q a n))) (sk q a n (fr ((q + a) ^ n) (bin q a n)) (ch n (n + 1)) (lw (q ^ (n + 1)) ((q + a) ^ (n + 1))) c6') := by
    unfold b__law_counts
    rw [seq_eq (σ1 := sk q a n [] 1 (.tuple [.int 1, .int 1]) none) (by simp [re])]
    rw [seq_eq (σ1 := sk q a n (row1 q a n (n + 1)) (ch n (n + 1)) (lw (a ^ (n + 1)) ((q + a) ^ (n + 1))) c6) (by
      rw [sFor_eq (iRange1_eq (j := (n : Int) + 1) (σ1 := sk q a n [] 1 (.tuple [.int 1, .int 1]) none) (by simp) r1), show ((n : Int) + 1).toNat = n + 1 by omega]
      exact e1)]
    rw [seq_eq (σ1 := sk q a n (row1 q a n (n + 1)) (ch n (n + 1)) (.tuple [.int 1, .int 1]) c6) (by simp)]
    rw [seq_eq (σ1 := sk q a n (fr ((q + a) ^ n) (bin q a n)) (ch n (n + 1)) (lw (q ^ (n + 1)) ((q + a) ^ (n + 1))) c6') (by
      rw [sFor_eq (ds := rngC (n : Int) (-1) (n + 1)) (σ1 := sk q a n (row1 q a n (n + 1)) (ch n (n + 1)) (.tuple [.int 1, .int 1]) c6) (by
        have tn : ((n : Int) + 1).toNat = n + 1 := by omega
        simp [r2, r3, tn])]
      exact e2)]
    simp
  exact fun_own (n := 7) (B := b__law_counts) (σ := [some (.d (lw a (q + a))), I n]) key
end
end K17

set_option Elab.async false
set_option linter.all false
set_option maxRecDepth 100000
set_option maxHeartbeats 4000000
namespace FL
open PySem
theorem atI_last {α : Type} (xs : List α) (x : α) : L2.atI (xs ++ [x]) (-1) = some x := by
  unfold L2.atI L2.ixN
  have e : (-1 + ((xs ++ [x]).length : Int)).toNat = xs.length := by rw [List.length_append]; simp only [List.length_cons, List.length_nil]; omega
  rw [if_neg (by omega), if_pos (by rw [List.length_append]; simp only [List.length_cons, List.length_nil]; omega)]
  simp only [e]
  simp
theorem sum_bd (M : Int) : ∀ (L : List Int), (∀ x ∈ L, -M ≤ x ∧ x ≤ M) → -(M * L.length) ≤ L.sum ∧ L.sum ≤ M * L.length
  | [], _ => by simp
  | x :: L, h => by
    have hx := h x List.mem_cons_self
    have ih := sum_bd M L fun y hy => h y (List.mem_cons_of_mem _ hy)
    rw [List.sum_cons, List.length_cons, Int.natCast_add, Int.mul_add]
    simp only [Int.natCast_one, Int.mul_one]
    omega
end FL
/-! k17: the law: gains and what is added -/
namespace K17
open PySem FL FL.Com
abbrev W (ns : List Int) : Option C := some (.d (.list (iL ns)))
abbrev O (ds : List Int) : Option C := some (.l .own (iL ds))
abbrev L (ds : List Int) : Option C := some (.l .par (iL ds))
theorem share_eq (ds : List Int) : ∃ (ds' : List Int) (q a : Int), Sh q a ∧ m__law_share [L ds] = .ok (.d (lw a (q + a))) [L ds'] := by
  have e1 := take_eq ds 3 (by decide)
  have t1 := takeX_pos ds (b := 3) (by decide)
  have t2 := takeX_lt ds (b := 3) (by decide)
  obtain ⟨b, b0, b1, bx⟩ : ∃ b : Int, 0 < b ∧ b ≤ 20 ∧ L2.atI [PyData.int 1, .int 4, .int 20] (takeX ds 3) = some (.int b) := by
    have : takeX ds 3 = 0 ∨ takeX ds 3 = 1 ∨ takeX ds 3 = 2 := by omega
    rcases this with h | h | h <;> rw [h]
    · exact ⟨1, by decide, by decide, rfl⟩
    · exact ⟨4, by decide, by decide, rfl⟩
    · exact ⟨20, by decide, by decide, rfl⟩
  generalize takeX ds 3 = z at e1 bx
  generalize ds.dropLast = ds1 at e1
  have e2 := take_eq ds1 b b0
  have p2 := takeX_pos ds1 b0
  have l2 := takeX_lt ds1 b0
  generalize takeX ds1 b = w at e2 p2 l2
  generalize ds1.dropLast = ds2 at e2
  have hw : 0 < 1 + w + 1 := by omega
  have e3 := take_eq ds2 (1 + w + 1) hw
  have p3 := takeX_pos ds2 hw
  have l3 := takeX_lt ds2 hw
  generalize takeX ds2 (1 + w + 1) = a at e3 p3 l3
  generalize ds2.dropLast = ds3 at e3
  have e4 := law_lowest_eq a (1 + w) (by omega) (by
    have : (1 + w).natAbs ≤ 20 := by omega
    exact Nat.lt_of_le_of_lt this (by decide))
  refine ⟨ds3, 1 + w - a, a, ⟨by omega, p3, by omega, by omega⟩, ?_⟩
  rw [show 1 + w - a + a = 1 + w by omega]
  generalize lw a (1 + w) = v at *
  simp [m__law_share, b__law_share, e1, bx, e2, e3, e4]
section
variable {q a : Int} (h : Sh q a) {pay cost : Int} (p0 : 0 ≤ pay) (p1 : pay ≤ 100) (c0 : 0 ≤ cost) (c1 : cost ≤ 100)
include h
theorem full_eq (r n : Nat) (hn : n ≤ 100) : m__law_sum [some (.d (.list (fr ((q + a) ^ n) ((bin q a n).drop r))))] = .ok (.d (lw (Fl q a r n) ((q + a) ^ n))) [none] := by
  have nn : ∀ x ∈ (bin q a n).drop r, 0 ≤ x ∧ x ≤ (q + a) ^ n := fun x hx => bin_le h n x (List.mem_of_mem_drop hx)
  refine law_sum_eq (h.pos n) (h.zB n (by omega)) ((bin q a n).drop r) (fun x hx => z_nn h n (by omega) (nn x hx).1 (nn x hx).2) fun i => ?_
  have t0 := take_sum_le ((bin q a n).drop r) i fun x hx => (nn x hx).1
  have t1 := Fl_bd h r n
  unfold Fl at t1
  exact z_nn h n (by omega) t0.1 (by omega)
include p0 p1 c0 c1
abbrev gl (q a : Int) (r : Nat) (pay cost : Int) (j : Nat) : List FL.D := (List.range j).map fun i => lw (Gn q a r pay cost i) ((q + a) ^ i)
abbrev al (q a : Int) (r : Nat) (pay cost : Int) (j : Nat) : List FL.D := (List.range j).map fun i => lw (a * Gw q a r pay cost i) ((q + a) ^ (i + 1))
abbrev sl (ns ds : List Int) (q a : Int) (r : Nat) (pay cost : Int) (gains adds : List FL.D) (c8 c9 c10 c11 c12 : Option C) : S := [W ns, O ds, I r, some (.d (lw a (q + a))), I pay, I cost, some (.l .own gains), some (.l .own adds), c8, c9, c10, c11, c12, none, none, none]
theorem law_added (r n : Nat) (hn : n ≤ 99) : ∃ v1 v2 v3 v5 : FL.D,
    m__law_minus [some (.d (.tuple [.int 1, .int 1])), some (.d (lw (Fl q a r n) ((q + a) ^ n)))] = .ok (.d v5) [none, none] ∧
    m__law_times [some (.d (.tuple [.int pay, .int 1])), some (.d v5)] = .ok (.d v3) [none, none] ∧
    m__law_times [some (.d (.tuple [.int cost, .int 1])), some (.d (lw (Fl q a r n) ((q + a) ^ n)))] = .ok (.d v2) [none, none] ∧
    m__law_minus [some (.d v3), some (.d v2)] = .ok (.d v1) [none, none] ∧
    m__law_times [some (.d (lw a (q + a))), some (.d v1)] = .ok (.d (lw (a * Gw q a r pay cost n) ((q + a) ^ (n + 1)))) [none, none] := by
  have hD := h.pos n
  have zD := h.zB n (by omega)
  obtain ⟨f0, f1⟩ := Fl_bd h r n
  obtain ⟨b0, b1, b2, b3⟩ := parts_bd h p0 p1 c0 c1 r n
  have zp : Z pay := h.z 0 (by decide) (by rw [Int.pow_zero]; omega) (by rw [Int.pow_zero]; omega)
  have zc : Z cost := h.z 0 (by decide) (by rw [Int.pow_zero]; omega) (by rw [Int.pow_zero]; omega)
  have z1 : Z 1 := h.z 0 (by decide) (by rw [Int.pow_zero]; omega) (by rw [Int.pow_zero]; omega)
  have m1 := law_minus_same (a := 1 * (q + a) ^ n) (b := Fl q a r n) hD (by rw [Int.one_mul]; exact zD) zD (z_nn h n (by omega) f0 f1)
  rw [lw_whole hD, Int.one_mul] at m1
  have zr : Z ((q + a) ^ n - Fl q a r n) := z_nn h n (by omega) (by omega) (by omega)
  have t1 := law_times_eq (a := pay) (D := 1) (b := (q + a) ^ n - Fl q a r n) (E := (q + a) ^ n) (by decide) hD zp z1 zr zD
  rw [lw_one, Int.one_mul] at t1
  have t2 := law_times_eq (a := cost) (D := 1) (b := Fl q a r n) (E := (q + a) ^ n) (by decide) hD zc z1 (z_nn h n (by omega) f0 f1) zD
  rw [lw_one, Int.one_mul] at t2
  have m2 := law_minus_same (a := pay * ((q + a) ^ n - Fl q a r n)) (b := cost * Fl q a r n) hD (h.z n (by omega) (by omega) (by omega)) zD (h.z n (by omega) (by omega) (by omega))
  rw [show pay * ((q + a) ^ n - Fl q a r n) - cost * Fl q a r n = Gw q a r pay cost n from rfl] at m2
  obtain ⟨g0, g1⟩ := Gw_bd h p0 p1 c0 c1 r n
  have t3 := law_times_eq (a := a) (D := q + a) (b := Gw q a r pay cost n) (E := (q + a) ^ n) h.b0 hD h.za h.zb (h.z n (by omega) (by omega) (by omega)) zD
  rw [show (q + a) * (q + a) ^ n = (q + a) ^ (n + 1) by rw [Int.pow_succ, Int.mul_comm]] at t3
  exact ⟨_, _, _, _, m1, t1, t2, m2, t3⟩
theorem law_next (r j : Nat) (hj : j ≤ 99) : m__law_plus [some (.d (lw (Gn q a r pay cost j) ((q + a) ^ j))), some (.d (lw (a * Gw q a r pay cost j) ((q + a) ^ (j + 1))))] = .ok (.d (lw (Gn q a r pay cost (j + 1)) ((q + a) ^ (j + 1)))) [none, none] := by
  have hD := h.pos (j + 1)
  have zD := h.zB (j + 1) (by omega)
  have sc : lw (Gn q a r pay cost j) ((q + a) ^ j) = lw ((q + a) * Gn q a r pay cost j) ((q + a) ^ (j + 1)) := by
    rw [Int.pow_succ, Int.mul_comm ((q + a) ^ j), lw_scale h.b0]
  have zg : Z ((q + a) * Gn q a r pay cost j) := by
    obtain ⟨i0, i1⟩ := Gn_bd h p0 p1 c0 c1 r j
    have b0 := h.b0
    have e1 := Int.mul_le_mul_of_nonneg_left i1 (Int.le_of_lt b0)
    have e2 := Int.mul_le_mul_of_nonneg_left i0 (Int.le_of_lt b0)
    have e3 : (q + a) * (100 * j * (q + a) ^ j) = 100 * j * (q + a) ^ (j + 1) := by rw [Int.pow_succ]; grind
    have e4 : (q + a) * (-(100 * j * (q + a) ^ j)) = -(100 * j * (q + a) ^ (j + 1)) := by rw [Int.pow_succ]; grind
    rw [e3] at e1
    rw [e4] at e2
    have e : 100 * (j : Int) * (q + a) ^ (j + 1) ≤ 1000000 * (q + a) ^ (j + 1) := Int.mul_le_mul_of_nonneg_right (by omega) (by omega)
    exact h.z (j + 1) (by omega) (by omega) (by omega)
  have pl := law_plus_same (a := (q + a) * Gn q a r pay cost j) (b := a * Gw q a r pay cost j) hD zg zD (aGw_z h p0 p1 c0 c1 r j (by omega))
  rw [← sc] at pl
  exact pl
theorem adds_step (ns ds : List Int) (r j : Nat) (hj : j ≤ 40) (c9 c10 c11 c12 : Option C) (f9 : Fr c9) :
    ∃ c, Fr c ∧ l_law_1 (sl ns ds q a r pay cost (gl q a r pay cost (j + 1)) (al q a r pay cost j) (I j) c9 c10 c11 c12) = .nx (sl ns ds q a r pay cost (gl q a r pay cost (j + 1 + 1)) (al q a r pay cost (j + 1)) (I j) c c10 c11 c12) := by
  have co := counts_eq h j hj
  have fe := full_eq h r j (by omega)
  obtain ⟨v1, v2, v3, v5, x1, x2, x3, x4, x5⟩ := law_added h p0 p1 c0 c1 r j (by omega)
  have nx := law_next h p0 p1 c0 c1 r j (by omega)
  have hcut : cutL (fr ((q + a) ^ j) (bin q a j)) (some (r : Int)) none = fr ((q + a) ^ j) ((bin q a j).drop r) := by rw [cutL_from]; simp [fr]
  have eg : ∀ i, gl q a r pay cost (i + 1) = gl q a r pay cost i ++ [lw (Gn q a r pay cost i) ((q + a) ^ i)] := fun i => by simp [gl, List.range_succ]
  have ea : al q a r pay cost (j + 1) = al q a r pay cost j ++ [lw (a * Gw q a r pay cost j) ((q + a) ^ (j + 1))] := by simp [al, List.range_succ]
  have lg : (gl q a r pay cost (j + 1)).length = j + 1 := by simp
  have la : (al q a r pay cost j).length = j := by simp
  have i1 : L2.atI (gl q a r pay cost (j + 1)) (-1) = some (lw (Gn q a r pay cost j) ((q + a) ^ j)) := by rw [eg]; exact atI_last _ _
  have i2 : L2.atI (al q a r pay cost j ++ [lw (a * Gw q a r pay cost j) ((q + a) ^ (j + 1))]) (-1) = some (lw (a * Gw q a r pay cost j) ((q + a) ^ (j + 1))) := atI_last _ _
  refine ⟨some (.d (lw (Fl q a r j) ((q + a) ^ j))), Fr.d, ?_⟩
  rw [eg (j + 1), ea]
  generalize gl q a r pay cost (j + 1) = gs at *
  generalize al q a r pay cost j = as at *
  generalize lw (Gn q a r pay cost (j + 1)) ((q + a) ^ (j + 1)) = w1 at *
  generalize lw (Gn q a r pay cost j) ((q + a) ^ j) = w2 at *
  generalize lw (a * Gw q a r pay cost j) ((q + a) ^ (j + 1)) = w3 at *
  generalize lw (Fl q a r j) ((q + a) ^ j) = w4 at *
  generalize fr ((q + a) ^ j) ((bin q a j).drop r) = l1 at *
  generalize fr ((q + a) ^ j) (bin q a j) = l2 at *
  have n1 : as.length < 16777216 := by omega
  have n2 : gs.length < 16777216 := by omega
  unfold l_law_1
  rw [seq_eq (σ1 := sl ns ds q a r pay cost gs as (I j) (some (.d w4)) c10 c11 c12) (by rcases f9 with rfl | ⟨x, rfl⟩ <;> simp [co, gSl, hcut, fe])]
  simp [x1, x2, x3, x4, x5, n1, n2, i1, i2, nx]
end
end K17

set_option Elab.async false
set_option linter.all false
set_option maxRecDepth 100000
set_option maxHeartbeats 4000000
/-! k17: the law: the gain by the chances of all numbers of guests -/
namespace K17
open PySem FL FL.Com
theorem dot_rng (f : Nat → Int) : ∀ (L : List Int) (i : Nat), ((List.range L.length).map fun k => f (i + k) * L.getD k 0).sum = dot f i L
  | [], i => rfl
  | x :: L, i => by
    have ih := dot_rng f L (i + 1)
    rw [List.length_cons, List.range_succ_eq_map, List.map_cons, List.sum_cons, List.map_map]
    simp only [dot, Nat.add_zero, List.getD_cons_zero]
    rw [← ih]
    congr 2
    apply List.map_congr_left
    intro k _
    simp only [Function.comp, List.getD_cons_succ]
    rw [show i + (k + 1) = i + 1 + k by omega]
section
variable {q a : Int} (h : Sh q a) {pay cost : Int} (p0 : 0 ≤ pay) (p1 : pay ≤ 100) (c0 : 0 ≤ cost) (c1 : cost ≤ 100)
include h p0 p1 c0 c1
abbrev wl (q a : Int) (r : Nat) (pay cost : Int) (m : Nat) : List Int := (List.range (m + 1)).map fun k => wr r pay cost k * (bin q a m).getD k 0
omit h p0 p1 c0 c1 in
theorem wl_sum (q a : Int) (r : Nat) (pay cost : Int) (m : Nat) : (wl q a r pay cost m).sum = Gn q a r pay cost m := by
  rw [← gain_mean]
  have := dot_rng (wr r pay cost) (bin q a m) 0
  rw [bin_len] at this
  rw [← this]
  congr 1
  apply List.map_congr_left
  intro k _
  rw [Nat.zero_add]
omit h in
theorem wr_bd (r k : Nat) (hr : r ≤ 20) (hk : k ≤ 40) : -4000 ≤ wr r pay cost k ∧ wr r pay cost k ≤ 4000 := by
  unfold wr
  obtain ⟨x, hx0, hx1, hx⟩ : ∃ x : Int, 0 ≤ x ∧ x ≤ 20 ∧ (if (k : Int) ≤ r then (k : Int) else r) = x := ⟨_, by split <;> omega, by split <;> omega, rfl⟩
  obtain ⟨y, hy0, hy1, hy⟩ : ∃ y : Int, 0 ≤ y ∧ y ≤ 40 ∧ (if (k : Int) - r < 0 then 0 else (k : Int) - r) = y := ⟨_, by split <;> omega, by split <;> omega, rfl⟩
  rw [hx, hy]
  have e1 := Int.mul_le_mul p1 hx1 hx0 (by decide)
  have e2 := Int.mul_le_mul c1 hy1 hy0 (by decide)
  have e3 := Int.mul_nonneg p0 hx0
  have e4 := Int.mul_nonneg c0 hy0
  omega
theorem term_bd (r k m : Nat) (hr : r ≤ 20) (hk : k ≤ 40) : 0 ≤ (bin q a m).getD k 0 ∧ (bin q a m).getD k 0 ≤ (q + a) ^ m ∧ -(4000 * (q + a) ^ m) ≤ wr r pay cost k * (bin q a m).getD k 0 ∧ wr r pay cost k * (bin q a m).getD k 0 ≤ 4000 * (q + a) ^ m := by
  obtain ⟨w0, w1⟩ := wr_bd p0 p1 c0 c1 r k hr hk
  have hp := h.pos m
  have hb : 0 ≤ (bin q a m).getD k 0 ∧ (bin q a m).getD k 0 ≤ (q + a) ^ m := by
    by_cases hl : k < (bin q a m).length
    · rw [show (bin q a m).getD k 0 = (bin q a m)[k] by simp [List.getD, hl]]
      exact bin_le h m _ (List.getElem_mem hl)
    · rw [show (bin q a m).getD k 0 = 0 by simp [List.getD, List.getElem?_eq_none (by omega : (bin q a m).length ≤ k)]]
      omega
  refine ⟨hb.1, hb.2, ?_, ?_⟩
  · have e1 := Int.mul_le_mul_of_nonneg_right w0 hb.1
    have e2 : -4000 * (bin q a m).getD k 0 ≥ -(4000 * (q + a) ^ m) := by omega
    omega
  · have e1 := Int.mul_le_mul_of_nonneg_right w1 hb.1
    omega
theorem due_eq (r m : Nat) (hr : r ≤ 20) (hm : m ≤ 40) : m__law_sum [some (.d (.list (fr ((q + a) ^ m) (wl q a r pay cost m))))] = .ok (.d (lw (Gn q a r pay cost m) ((q + a) ^ m))) [none] := by
  have hp := h.pos m
  have el : ∀ x ∈ wl q a r pay cost m, -(4000 * (q + a) ^ m) ≤ x ∧ x ≤ 4000 * (q + a) ^ m := fun x hx => by
    obtain ⟨k, hk, rfl⟩ := List.mem_map.mp hx
    have hk := List.mem_range.mp hk
    exact (term_bd h p0 p1 c0 c1 r k m hr (by omega)).2.2
  have := law_sum_eq (h.pos m) (h.zB m (by omega)) (wl q a r pay cost m) (fun x hx => by
    have := el x hx
    exact h.z m (by omega) (by omega) (by omega)) fun i => by
      have := sum_bd (4000 * (q + a) ^ m) ((wl q a r pay cost m).take i) fun x hx => el x (List.mem_of_mem_take hx)
      have hl : ((wl q a r pay cost m).take i).length ≤ 41 := by rw [List.length_take]; simp; omega
      have e : 4000 * (q + a) ^ m * (((wl q a r pay cost m).take i).length : Int) ≤ 4000 * (q + a) ^ m * 41 := Int.mul_le_mul_of_nonneg_left (by omega) (by omega)
      exact h.z m (by omega) (by omega) (by omega)
  rw [wl_sum] at this
  exact this
abbrev sq (ns ds : List Int) (q a : Int) (r : Nat) (pay cost : Int) (c8 c10 c11 c12 : Option C) (c9 : Option C) : S := sl ns ds q a r pay cost (gl q a r pay cost 41) (al q a r pay cost 40) c8 c9 c10 c11 c12
theorem terms_eq (ns ds : List Int) (r m : Nat) (hr : r ≤ 20) (hm : m ≤ 40) (c9 c11 c12 : Option C) :
    lcL [13] (gN 13) tT e_law_1 (rngL 0 (m + 1)) (sl ns ds q a r pay cost (gl q a r pay cost 41) (al q a r pay cost 40) (I m) c9 (some (.l .own (fr ((q + a) ^ m) (bin q a m)))) c11 c12) = .ok (fr ((q + a) ^ m) (wl q a r pay cost m)) (sl ns ds q a r pay cost (gl q a r pay cost 41) (al q a r pay cost 40) (I m) c9 (some (.l .own (fr ((q + a) ^ m) (bin q a m)))) c11 c12) := by
  have := lc_mapL (vs := [13]) (g := gN 13) (E := e_law_1) (σ := sl ns ds q a r pay cost (gl q a r pay cost 41) (al q a r pay cost 40) (I m) c9 (some (.l .own (fr ((q + a) ^ m) (bin q a m)))) c11 c12)
    (fun k : Nat => PyData.int (0 + (k : Int))) (fun k : Nat => lw (wr r pay cost k * (bin q a m).getD k 0) ((q + a) ^ m)) (List.range (m + 1)) fun k hk => by
      have hk := List.mem_range.mp hk
      rw [Int.zero_add]
      have hp := h.pos m
      obtain ⟨b0, b1, t0, t1⟩ := term_bd h p0 p1 c0 c1 r k m hr (by omega)
      obtain ⟨w0, w1⟩ := wr_bd p0 p1 c0 c1 r k hr (by omega)
      have zw : Z (wr r pay cost k) := Nat.lt_of_le_of_lt (show (wr r pay cost k).natAbs ≤ 4000 by omega) (by decide)
      have z1 : Z 1 := by show 1 < _; exact Nat.one_lt_two_pow (by decide)
      have te := law_times_eq (a := wr r pay cost k) (D := 1) (b := (bin q a m).getD k 0) (E := (q + a) ^ m) (by decide) hp zw z1 (z_nn h m (by omega) b0 b1) (h.zB m (by omega))
      rw [lw_one, Int.one_mul] at te
      have hl : k < (bin q a m).length := by rw [bin_len]; omega
      have at1 : L2.atI (fr ((q + a) ^ m) (bin q a m)) (k : Int) = some (lw ((bin q a m).getD k 0) ((q + a) ^ m)) := by
        rw [atI_n _ k (by simp [fr, bin_len]; omega)]
        simp [fr, List.getD, hl]
      have ew : pay * (if r < k then (r : Int) else k) - cost * (if r < k then (k : Int) - r else 0) = wr r pay cost k := by
        unfold wr
        by_cases h2 : r < k
        · have e1 : ¬ (k : Int) ≤ r := by omega
          have e2 : ¬ (k : Int) - r < 0 := by omega
          rw [if_pos h2, if_pos h2, if_neg e1, if_neg e2]
        · have e1 : (k : Int) ≤ r := by omega
          rw [if_neg h2, if_neg h2, if_pos e1]
          by_cases e2 : (k : Int) - r < 0
          · rw [if_pos e2]
          · rw [if_neg e2, show (k : Int) - r = 0 by omega]
      have o1 : ∀ x : Int, mulOk pay x = true := fun x => mulOk_l _ _ (by omega)
      have o2 : ∀ x : Int, mulOk cost x = true := fun x => mulOk_l _ _ (by omega)
      refine ⟨sl ns ds q a r pay cost (gl q a r pay cost 41) (al q a r pay cost 40) (I m) c9 (some (.l .own (fr ((q + a) ^ m) (bin q a m)))) c11 c12 |>.set 13 (I k), sl ns ds q a r pay cost (gl q a r pay cost 41) (al q a r pay cost 40) (I m) c9 (some (.l .own (fr ((q + a) ^ m) (bin q a m)))) c11 c12 |>.set 13 (I k), by simp, ?_, by simp⟩
      generalize gl q a r pay cost 41 = gs at *
      generalize al q a r pay cost 40 = as at *
      generalize fr ((q + a) ^ m) (bin q a m) = l2 at *
      generalize lw (wr r pay cost k * (bin q a m).getD k 0) ((q + a) ^ m) = v1 at *
      generalize lw ((bin q a m).getD k 0) ((q + a) ^ m) = v2 at *
      simp [e_law_1, at1, te, o1, o2, ew]
  rw [show fr ((q + a) ^ m) (wl q a r pay cost m) = (List.range (m + 1)).map fun k : Nat => lw (wr r pay cost k * (bin q a m).getD k 0) ((q + a) ^ m) by unfold fr wl; rw [List.map_map]; rfl]
  exact this
theorem ask_step (ns ds : List Int) (r m : Nat) (h1 : 1 ≤ r) (hr : r ≤ 20) (hm : m ≤ 40) (c9 c10 c11 c12 : Option C) (f10 : Fr c10 ∨ ∃ l, c10 = some (.l .own l)) (f11 : Fr c11) :
    ∃ d11, Fr d11 ∧ l_law_2 (sl ns ds q a r pay cost (gl q a r pay cost 41) (al q a r pay cost 40) (I m) c9 c10 c11 c12) = .nx (sl ns ds q a r pay cost (gl q a r pay cost 41) (al q a r pay cost 40) (I m) c9 (some (.l .own (fr ((q + a) ^ m) (bin q a m)))) d11 c12) := by
  have co := counts_eq h m hm
  have te := terms_eq h p0 p1 c0 c1 ns ds r m hr hm c9 c11 c12
  have du := due_eq h p0 p1 c0 c1 r m hr hm
  have tl := told0 (gain_eq h p0 p1 c0 c1 r m h1 hr hm)
  have sm := sm_lw (Gn q a r pay cost m) ((q + a) ^ m) 6
  have sa := same_self 8 _ sm
  have ne := gNe_self sm (by decide)
  have atg : L2.atI (gl q a r pay cost 41) (m : Int) = some (lw (Gn q a r pay cost m) ((q + a) ^ m)) := by
    rw [atI_n _ m (by simp; omega)]
    simp
  have hlen : (fr ((q + a) ^ m) (wl q a r pay cost m)).length = m + 1 := by simp [fr]
  have rm := rOk_int ((m : Int) + 1) (by omega) (by omega)
  have tn : ((m : Int) + 1).toNat = m + 1 := by omega
  refine ⟨some (.d (lw (Gn q a r pay cost m) ((q + a) ^ m))), Fr.d, ?_⟩
  generalize gl q a r pay cost 41 = gs at *
  generalize al q a r pay cost 40 = as at *
  generalize lw (Gn q a r pay cost m) ((q + a) ^ m) = v at *
  generalize fr ((q + a) ^ m) (wl q a r pay cost m) = w at *
  generalize fr ((q + a) ^ m) (bin q a m) = b at *
  have n1 : w.length ≤ 16777216 := by omega
  unfold l_law_2
  rw [seq_eq (σ1 := sl ns ds q a r pay cost gs as (I m) c9 (some (.l .own b)) c11 c12) (by rcases f10 with (rfl | ⟨x, rfl⟩) | ⟨l, rfl⟩ <;> simp [co])]
  rw [seq_eq (σ1 := sl ns ds q a r pay cost gs as (I m) c9 (some (.l .own b)) (some (.d v)) c12) (by rcases f11 with rfl | ⟨x, rfl⟩ <;> simp [rm, tn, te, n1, du])]
  simp [tl, sa, atg, ne]
end
end K17

set_option Elab.async false
set_option linter.all false
set_option maxRecDepth 100000
set_option maxHeartbeats 4000000
namespace FL
open PySem
theorem filter_first (P : Nat → Bool) (m : Nat) (h1 : ∀ i, i < m → P i = false) : ∀ n : Nat, (n ≤ m → (List.range n).filter P = []) ∧ (m < n → P m = true → ∃ t, (List.range n).filter P = m :: t)
  | 0 => ⟨fun _ => rfl, fun h => by omega⟩
  | n + 1 => by
    obtain ⟨a, b⟩ := filter_first P m h1 n
    rw [List.range_succ, List.filter_append]
    refine ⟨fun h => ?_, fun h hp => ?_⟩
    · rw [a (by omega)]
      simp [h1 n (by omega)]
    · by_cases hm : m < n
      · obtain ⟨t, e⟩ := b hm hp
        exact ⟨t ++ List.filter P [n], by rw [e]; rfl⟩
      · have : m = n := by omega
        subst this
        exact ⟨[], by rw [a (Nat.le_refl _)]; simp [hp]⟩
end FL
/-! k17: the best number of bookings -/
namespace K17
open PySem FL FL.Com
section
variable {q a : Int} (h : Sh q a) {pay cost : Int} (p0 : 0 ≤ pay) (p1 : pay ≤ 100) (c0 : 0 ≤ cost) (c1 : cost ≤ 100)
include h p0 p1 c0 c1
/-- the gain over b ^ 40 -/
abbrev Hg (q a : Int) (r : Nat) (pay cost : Int) (i : Nat) : Int := Gn q a r pay cost i * (q + a) ^ (40 - i)
omit p0 p1 c0 c1 in
theorem Hg_eq (r i : Nat) (hi : i ≤ 40) : lw (Gn q a r pay cost i) ((q + a) ^ i) = lw (Hg q a r pay cost i) ((q + a) ^ 40) := by
  refine lw_eq (h.pos i) (h.pos 40) ?_
  unfold Hg
  rw [Int.mul_assoc, ← Int.pow_add, show 40 - i + i = 40 by omega]
theorem Hg_z (r i : Nat) (hi : i ≤ 40) : Z (Hg q a r pay cost i) := by
  obtain ⟨g0, g1⟩ := Gn_bd h p0 p1 c0 c1 r i
  have hp := h.pos (40 - i)
  have hp2 := h.pos 40
  have e : (q + a) ^ i * (q + a) ^ (40 - i) = (q + a) ^ 40 := by rw [← Int.pow_add, show i + (40 - i) = 40 by omega]
  have e1 := Int.mul_le_mul_of_nonneg_right g1 (Int.le_of_lt hp)
  have e2 := Int.mul_le_mul_of_nonneg_right g0 (Int.le_of_lt hp)
  have e3 : 100 * (i : Int) * (q + a) ^ i * (q + a) ^ (40 - i) = 100 * i * (q + a) ^ 40 := by rw [Int.mul_assoc, e]
  have e4 : -(100 * (i : Int) * (q + a) ^ i) * (q + a) ^ (40 - i) = -(100 * i * (q + a) ^ 40) := by rw [Int.neg_mul, Int.mul_assoc, e]
  rw [e3] at e1
  rw [e4] at e2
  have e5 : 100 * (i : Int) * (q + a) ^ 40 ≤ 1000000 * (q + a) ^ 40 := Int.mul_le_mul_of_nonneg_right (by omega) (by omega)
  exact h.z 40 (by decide) (by show _ ≤ Gn q a r pay cost i * (q + a) ^ (40 - i); omega) (by show Gn q a r pay cost i * (q + a) ^ (40 - i) ≤ _; omega)
omit p0 p1 c0 c1 in
theorem Hg_succ (r i : Nat) (hi : i < 40) : Hg q a r pay cost (i + 1) = Hg q a r pay cost i + a * Gw q a r pay cost i * (q + a) ^ (40 - (i + 1)) := by
  unfold Hg
  rw [Gn, show 40 - i = 40 - (i + 1) + 1 by omega, Int.pow_succ]
  grind
theorem pos_mono (r i : Nat) (hn : ¬ 0 < a * Gw q a r pay cost i) : ¬ 0 < a * Gw q a r pay cost (i + 1) := by
  have w := worth_mono h.hq h.ha r i pay cost p0 c0
  have e := Int.mul_le_mul_of_nonneg_left w h.ha
  have e2 : a * ((q + a) * Gw q a r pay cost i) = (q + a) * (a * Gw q a r pay cost i) := by grind
  rw [e2] at e
  have e3 := Int.mul_nonpos_of_nonneg_of_nonpos (Int.le_of_lt h.b0) (show a * Gw q a r pay cost i ≤ 0 by omega)
  omega
theorem np_from (r m0 : Nat) (hn : ¬ 0 < a * Gw q a r pay cost m0) : ∀ k, ¬ 0 < a * Gw q a r pay cost (m0 + k)
  | 0 => hn
  | k + 1 => pos_mono h p0 p1 c0 c1 r (m0 + k) (np_from r m0 hn k)
theorem Hg_up (r i : Nat) (hi : i < 40) (hp : 0 < a * Gw q a r pay cost i) : Hg q a r pay cost i < Hg q a r pay cost (i + 1) := by
  rw [Hg_succ h r i hi]
  have := Int.mul_pos hp (h.pos (40 - (i + 1)))
  omega
theorem Hg_down (r m0 : Nat) (hm : m0 < 40) (hn : ¬ 0 < a * Gw q a r pay cost m0) : ∀ k, m0 + k ≤ 40 → Hg q a r pay cost (m0 + k) ≤ Hg q a r pay cost m0
  | 0, _ => Int.le_refl _
  | k + 1, hk => by
    have ih := Hg_down r m0 hm hn k (by omega)
    have np := np_from h p0 p1 c0 c1 r m0 hn k
    have := Int.mul_nonpos_of_nonpos_of_nonneg (show a * Gw q a r pay cost (m0 + k) ≤ 0 by omega) (Int.le_of_lt (h.pos (40 - (m0 + k + 1))))
    rw [show m0 + (k + 1) = m0 + k + 1 by omega, Hg_succ h r (m0 + k) (by omega)]
    omega
theorem gains_less (r i j : Nat) (hi : i ≤ 40) (hj : j ≤ 40) : m__law_less [some (.d (lw (Gn q a r pay cost i) ((q + a) ^ i))), some (.d (lw (Gn q a r pay cost j) ((q + a) ^ j)))] = .ok (.d (.bool (decide (Hg q a r pay cost i < Hg q a r pay cost j)))) [none, none] := by
  rw [Hg_eq h r i hi, Hg_eq h r j hj]
  exact law_less_same (h.pos 40) (Hg_z h p0 p1 c0 c1 r i hi) (h.zB 40 (by decide)) (Hg_z h p0 p1 c0 c1 r j hj)
omit h p0 p1 c0 c1 in
theorem gl_at (r m : Nat) (hm : m ≤ 40) : L2.atI (gl q a r pay cost 41) (m : Int) = some (lw (Gn q a r pay cost m) ((q + a) ^ m)) := by
  rw [atI_n _ m (by simp; omega)]
  simp
omit h p0 p1 c0 c1 in
theorem al_at (r m : Nat) (hm : m < 40) : L2.atI (al q a r pay cost 40) (m : Int) = some (lw (a * Gw q a r pay cost m) ((q + a) ^ (m + 1))) := by
  rw [atI_n _ m (by simp; omega)]
  simp
theorem best_step (ns ds : List Int) (r m0 i : Nat) (hm : m0 ≤ 40) (hpos : ∀ i, i < m0 → 0 < a * Gw q a r pay cost i) (hstop : m0 < 40 → ¬ 0 < a * Gw q a r pay cost m0) (hi : i ≤ 40) (c9 c10 c11 : Option C) :
    l_law_3 (sl ns ds q a r pay cost (gl q a r pay cost 41) (al q a r pay cost 40) (I i) c9 c10 c11 (I (min (i - 1) m0 : Nat))) = .nx (sl ns ds q a r pay cost (gl q a r pay cost 41) (al q a r pay cost 40) (I i) c9 c10 c11 (I (min i m0 : Nat))) := by
  have b1 : min (i - 1) m0 ≤ 40 := by omega
  have at1 := gl_at (q := q) (a := a) (pay := pay) (cost := cost) r (min (i - 1) m0) b1
  have at2 := gl_at (q := q) (a := a) (pay := pay) (cost := cost) r i hi
  have le := gains_less h p0 p1 c0 c1 r (min (i - 1) m0) i b1 hi
  have key : (if decide (Hg q a r pay cost (min (i - 1) m0) < Hg q a r pay cost i) = true then i else min (i - 1) m0) = min i m0 := by
    by_cases h1 : i ≤ m0
    · rcases Nat.eq_zero_or_pos i with h0 | h0
      · subst h0; simp
      · have e : min (i - 1) m0 = i - 1 := by omega
        have up := Hg_up h p0 p1 c0 c1 r (i - 1) (by omega) (hpos (i - 1) (by omega))
        rw [show i - 1 + 1 = i by omega] at up
        rw [e, if_pos (decide_eq_true up)]
        omega
    · have e : min (i - 1) m0 = m0 := by omega
      have dn := Hg_down h p0 p1 c0 c1 r m0 (by omega) (hstop (by omega)) (i - m0) (by omega)
      rw [show m0 + (i - m0) = i by omega] at dn
      have : ¬ Hg q a r pay cost m0 < Hg q a r pay cost i := by omega
      rw [e, decide_eq_false this]
      simp
      omega
  generalize min (i - 1) m0 = b at *
  generalize min i m0 = b2 at *
  generalize lw (Gn q a r pay cost b) ((q + a) ^ b) = v1 at *
  generalize lw (Gn q a r pay cost i) ((q + a) ^ i) = v2 at *
  generalize gl q a r pay cost 41 = gs at *
  generalize al q a r pay cost 40 = as at *
  subst key
  by_cases hc : Hg q a r pay cost b < Hg q a r pay cost i
  · simp [l_law_3, at1, at2, le, hc]
  · simp [l_law_3, at1, at2, le, hc]
theorem best_run (ns ds : List Int) (r m0 : Nat) (hm : m0 ≤ 40) (hpos : ∀ i, i < m0 → 0 < a * Gw q a r pay cost i) (hstop : m0 < 40 → ¬ 0 < a * Gw q a r pay cost m0) (c8 c9 c10 c11 : Option C) (f8 : Fr c8) :
    ∃ d8, Fr d8 ∧ forL (gN 8) l_law_3 (rngL 0 41) (sl ns ds q a r pay cost (gl q a r pay cost 41) (al q a r pay cost 40) c8 c9 c10 c11 (I 0)) = .nx (sl ns ds q a r pay cost (gl q a r pay cost 41) (al q a r pay cost 40) d8 c9 c10 c11 (I m0)) := by
  obtain ⟨σ', e, d8, g8, hs⟩ := for_run (g := gN 8) (B := l_law_3) (ds := rngL 0 41) (σ := sl ns ds q a r pay cost (gl q a r pay cost 41) (al q a r pay cost 40) c8 c9 c10 c11 (I 0))
    (fun i σ => ∃ c8, Fr c8 ∧ σ = sl ns ds q a r pay cost (gl q a r pay cost 41) (al q a r pay cost 40) c8 c9 c10 c11 (I (min (i - 1) m0 : Nat))) ⟨c8, f8, by simp⟩ fun i d σ hd ⟨c8, f8, hs⟩ => by
      subst hs
      obtain ⟨hi, rfl⟩ := rngL_get hd
      rw [Int.zero_add]
      exact ⟨sl ns ds q a r pay cost (gl q a r pay cost 41) (al q a r pay cost 40) (I i) c9 c10 c11 (I (min (i - 1) m0 : Nat)), by rcases f8 with rfl | ⟨x, rfl⟩ <;> simp, _, .inl (best_step h p0 p1 c0 c1 ns ds r m0 i hm hpos hstop (by omega) c9 c10 c11), I i, Fr.d, by simp⟩
  rw [rngL_len] at hs
  refine ⟨d8, g8, ?_⟩
  rw [e, hs, show min (41 - 1) m0 = m0 by omega]
/-- adds never rise -/
theorem rise_none (ns ds : List Int) (r : Nat) (c9 c10 c11 c12 : Option C) : lcL [8] (gN 8) t_law_1 e_law_2 (rngL 1 39) (sl ns ds q a r pay cost (gl q a r pay cost 41) (al q a r pay cost 40) none c9 c10 c11 c12) = .ok [] (sl ns ds q a r pay cost (gl q a r pay cost 41) (al q a r pay cost 40) none c9 c10 c11 c12) := by
  refine lc_none _ fun d hd => ?_
  obtain ⟨i, hi, rfl⟩ := rng_mem hd
  have at1 := al_at (q := q) (a := a) (pay := pay) (cost := cost) r i (by omega)
  have at2 := al_at (q := q) (a := a) (pay := pay) (cost := cost) r (i + 1) (by omega)
  have le := law_less_eq (a := a * Gw q a r pay cost i) (D := (q + a) ^ (i + 1)) (b := a * Gw q a r pay cost (i + 1)) (E := (q + a) ^ (i + 1 + 1)) (h.pos _) (h.pos _) (aGw_z h p0 p1 c0 c1 r i (by omega)) (h.zB _ (by omega)) (aGw_z h p0 p1 c0 c1 r (i + 1) (by omega)) (h.zB _ (by omega))
  have no : ¬ a * Gw q a r pay cost i * (q + a) ^ (i + 1 + 1) < a * Gw q a r pay cost (i + 1) * (q + a) ^ (i + 1) := by
    have w := worth_mono h.hq h.ha r i pay cost p0 c0
    have e := Int.mul_le_mul_of_nonneg_left w h.ha
    have e2 := Int.mul_le_mul_of_nonneg_right e (Int.le_of_lt (h.pos (i + 1)))
    have e3 : a * ((q + a) * Gw q a r pay cost i) * (q + a) ^ (i + 1) = a * Gw q a r pay cost i * (q + a) ^ (i + 1 + 1) := by rw [Int.pow_succ _ (i + 1)]; grind
    omega
  rw [decide_eq_false no] at le
  have e1 : (1 : Int) + (i : Int) = ((i + 1 : Nat) : Int) := by omega
  have e2 : ((i + 1 : Nat) : Int) - 1 = (i : Int) := by omega
  rw [e1]
  refine ⟨(sl ns ds q a r pay cost (gl q a r pay cost 41) (al q a r pay cost 40) none c9 c10 c11 c12).set 8 (I ((i + 1 : Nat) : Int)), (sl ns ds q a r pay cost (gl q a r pay cost 41) (al q a r pay cost 40) none c9 c10 c11 c12).set 8 (I ((i + 1 : Nat) : Int)), by simp, ?_, by simp⟩
  generalize ((i + 1 : Nat) : Int) = j at *
  generalize lw (a * Gw q a r pay cost i) ((q + a) ^ (i + 1)) = v1 at *
  generalize lw (a * Gw q a r pay cost (i + 1)) ((q + a) ^ (i + 1 + 1)) = v2 at *
  generalize gl q a r pay cost 41 = gs at *
  generalize al q a r pay cost 40 = as at *
  simp [t_law_1, e2, at1, at2, le]
/-- the first that adds nothing -/
theorem first_eq (ns ds : List Int) (r m0 : Nat) (hm : m0 ≤ 40) (hpos : ∀ i, i < m0 → 0 < a * Gw q a r pay cost i) (hstop : m0 < 40 → ¬ 0 < a * Gw q a r pay cost m0) (c9 c10 c11 c12 : Option C) :
    ∃ xs : List FL.D, lcL [8] (gN 8) t_law_2 e_law_3 (rngL 0 40) (sl ns ds q a r pay cost (gl q a r pay cost 41) (al q a r pay cost 40) none c9 c10 c11 c12) = .ok xs (sl ns ds q a r pay cost (gl q a r pay cost 41) (al q a r pay cost 40) none c9 c10 c11 c12) ∧ xs.length ≤ 40 ∧ L2.atI (xs ++ [PyData.int 40]) 0 = some (.int m0) := by
  have key := lc_map (vs := [8]) (g := gN 8) (T := t_law_2) (E := e_law_3) (σ := sl ns ds q a r pay cost (gl q a r pay cost 41) (al q a r pay cost 40) none c9 c10 c11 c12) (fun d => match d with | .int i => !decide (0 < a * Gw q a r pay cost i.toNat) | _ => false) (fun d => d) (rngL 0 40) fun d hd => by
    obtain ⟨i, hi, rfl⟩ := rng_mem hd
    rw [Int.zero_add]
    have at1 := al_at (q := q) (a := a) (pay := pay) (cost := cost) r i hi
    have hD := h.pos (i + 1)
    have le := law_less_same (a := 0) (b := a * Gw q a r pay cost i) hD z0 (h.zB (i + 1) (by omega)) (aGw_z h p0 p1 c0 c1 r i (by omega))
    rw [lw_zero hD] at le
    refine ⟨(sl ns ds q a r pay cost (gl q a r pay cost 41) (al q a r pay cost 40) none c9 c10 c11 c12).set 8 (I i), (sl ns ds q a r pay cost (gl q a r pay cost 41) (al q a r pay cost 40) none c9 c10 c11 c12).set 8 (I i), by simp, ?_, fun _ => by simp, fun _ => ⟨(sl ns ds q a r pay cost (gl q a r pay cost 41) (al q a r pay cost 40) none c9 c10 c11 c12).set 8 (I i), by simp [e_law_3], by simp⟩⟩
    show _ = Res.ok (!decide (0 < a * Gw q a r pay cost (i : Int).toNat)) _
    rw [Int.toNat_natCast]
    generalize decide (0 < a * Gw q a r pay cost i) = k at *
    generalize lw (a * Gw q a r pay cost i) ((q + a) ^ (i + 1)) = v1 at *
    generalize gl q a r pay cost 41 = gs at *
    generalize al q a r pay cost 40 = as at *
    simp [t_law_2, at1, le]
  refine ⟨_, key, ?_, ?_⟩
  · rw [List.length_map]
    refine Nat.le_trans (List.length_filter_le _ _) ?_
    rw [rngL_len]; exact Nat.le_refl _
  · rw [List.map_id']
    have ef : (rngL 0 40).filter (fun d => match d with | .int i => !decide (0 < a * Gw q a r pay cost i.toNat) | _ => false) = ((List.range 40).filter fun i => !decide (0 < a * Gw q a r pay cost i)).map fun i : Nat => PyData.int (0 + (i : Int)) := by
      unfold rngL
      rw [List.filter_map]
      congr 1
      try (apply List.filter_congr; intro i _; simp only [Function.comp, Int.zero_add, Int.toNat_natCast])
    rw [ef]
    obtain ⟨f1, f2⟩ := filter_first (fun i => !decide (0 < a * Gw q a r pay cost i)) m0 (fun i hi => by simp [hpos i hi]) 40
    by_cases hlt : m0 < 40
    · obtain ⟨t, et⟩ := f2 hlt (by simp only [decide_eq_false (hstop hlt)]; rfl)
      rw [et, List.map_cons, List.cons_append]
      rw [atI_z, Int.zero_add]
    · rw [f1 (by omega), List.map_nil, List.nil_append, atI_z, show m0 = 40 by omega]
      try rfl
end
end K17

set_option Elab.async false
set_option linter.all false
set_option maxRecDepth 100000
set_option maxHeartbeats 4000000
/-! k17: the law is true -/
namespace K17
open PySem FL FL.Com
theorem take2 (ds : List Int) : takeX ds 2 = 0 ∨ takeX ds 2 = 1 := by
  have := takeX_pos ds (b := 2) (by decide)
  have := takeX_lt ds (b := 2) (by decide)
  omega
theorem price_ok (ds : List Int) : ∃ (b : Int) (ds' : List Int), 0 < b ∧ b ≤ 101 ∧ L2.atI [PyData.int 6, .int 101] (takeX ds 2) = some (.int b) := by
  rcases take2 ds with h | h <;> rw [h]
  · exact ⟨6, [], by decide, by decide, rfl⟩
  · exact ⟨101, [], by decide, by decide, rfl⟩
theorem sm_range : ∀ n, Sm (n + 1) (.str "range") := fun n => .str n "range" (by decide +kernel)
section
variable {q a : Int} (h : Sh q a) {pay cost : Int} (p0 : 0 ≤ pay) (p1 : pay ≤ 100) (c0 : 0 ≤ cost) (c1 : cost ≤ 100)
include h p0 p1 c0 c1
theorem asks_run (ns ds : List Int) (r : Nat) (h1 : 1 ≤ r) (hr : r ≤ 20) (ms : List Int) (hms : ∀ m ∈ ms, 0 ≤ m ∧ m ≤ 40) (c8 c9 : Option C) (f8 : Fr c8) :
    ∃ d8 d10 d11, Fr d8 ∧ forL (gN 8) l_law_2 (iL ms) (sl ns ds q a r pay cost (gl q a r pay cost 41) (al q a r pay cost 40) c8 c9 none none none) = .nx (sl ns ds q a r pay cost (gl q a r pay cost 41) (al q a r pay cost 40) d8 c9 d10 d11 none) := by
  obtain ⟨σ', e, d8, d10, d11, g8, g10, g11, hs⟩ := for_run (g := gN 8) (B := l_law_2) (ds := iL ms) (σ := sl ns ds q a r pay cost (gl q a r pay cost 41) (al q a r pay cost 40) c8 c9 none none none)
    (fun i σ => ∃ c8 c10 c11, Fr c8 ∧ (Fr c10 ∨ ∃ l, c10 = some (.l .own l)) ∧ Fr c11 ∧ σ = sl ns ds q a r pay cost (gl q a r pay cost 41) (al q a r pay cost 40) c8 c9 c10 c11 none) ⟨c8, none, none, f8, .inl .none, .none, rfl⟩ fun i d σ hd ⟨c8, c10, c11, f8, f10, f11, hs⟩ => by
      subst hs
      obtain ⟨m, hm, rfl⟩ := iL_get hd
      obtain ⟨m0, m1⟩ := hms m (List.mem_of_getElem? hm)
      obtain ⟨k, rfl⟩ := Int.eq_ofNat_of_zero_le m0
      obtain ⟨d11, g11, e⟩ := ask_step h p0 p1 c0 c1 ns ds r k h1 hr (by omega) c9 c10 c11 none f10 f11
      exact ⟨sl ns ds q a r pay cost (gl q a r pay cost 41) (al q a r pay cost 40) (I k) c9 c10 c11 none, by rcases f8 with rfl | ⟨x, rfl⟩ <;> simp, _, .inl e, I k, _, d11, Fr.d, .inr ⟨_, rfl⟩, g11, rfl⟩
  exact ⟨d8, d10, d11, g8, by rw [e, hs]⟩
theorem adds_run (ns ds : List Int) (r : Nat) :
    ∃ d8 d9, Fr d8 ∧ Fr d9 ∧ forL (gN 8) l_law_1 (rngL 0 40) (sl ns ds q a r pay cost [.tuple [.int 0, .int 1]] [] none none none none none) = .nx (sl ns ds q a r pay cost (gl q a r pay cost 41) (al q a r pay cost 40) d8 d9 none none none) := by
  have g1 : gl q a r pay cost (0 + 1) = [.tuple [.int 0, .int 1]] := by
    have : lw (Gn q a r pay cost 0) ((q + a) ^ 0) = .tuple [.int 0, .int 1] := by rw [Int.pow_zero, lw_one]; rfl
    simp only [gl, List.range_succ, List.range_zero, List.nil_append, List.map_cons, List.map_nil, this]
  obtain ⟨σ', e, d8, d9, g8, g9, hs⟩ := for_run (g := gN 8) (B := l_law_1) (ds := rngL 0 40) (σ := sl ns ds q a r pay cost (gl q a r pay cost (0 + 1)) (al q a r pay cost 0) none none none none none)
    (fun i σ => ∃ c8 c9, Fr c8 ∧ Fr c9 ∧ σ = sl ns ds q a r pay cost (gl q a r pay cost (i + 1)) (al q a r pay cost i) c8 c9 none none none) ⟨none, none, .none, .none, rfl⟩ fun i d σ hd ⟨c8, c9, f8, f9, hs⟩ => by
      subst hs
      obtain ⟨hi, rfl⟩ := rngL_get hd
      rw [Int.zero_add]
      obtain ⟨c, fc, e⟩ := adds_step h p0 p1 c0 c1 ns ds r i (by omega) c9 none none none f9
      exact ⟨sl ns ds q a r pay cost (gl q a r pay cost (i + 1)) (al q a r pay cost i) (I i) c9 none none none, by rcases f8 with rfl | ⟨x, rfl⟩ <;> simp, _, .inl e, I i, c, Fr.d, fc, rfl⟩
  rw [rngL_len] at hs
  rw [g1] at e
  exact ⟨d8, d9, g8, g9, by rw [← hs, ← e]; rfl⟩
theorem words4 (ns ds : List Int) (r : Nat) (c8 c9 c10 c11 c12 : Option C) :
    lcL [14, 15] (gT (gN 14 :: [gN 15])) tT e_law_4 [.tuple [.int 0, .int 0], .tuple [.int 0, .int 21], .tuple [.int 1, .int 0], .tuple [.int 1, .int 21]] (sl ns ds q a r pay cost (gl q a r pay cost 41) (al q a r pay cost 40) c8 c9 c10 c11 c12) =
      .ok [.str "range", .str "range", .str "range", .str "range"] (sl ns ds q a r pay cost (gl q a r pay cost 41) (al q a r pay cost 40) c8 c9 c10 c11 c12) := by
  have t1 := told0x (gain_bad1 0 5 pay cost (lw a (q + a)) (by decide))
  have t2 := told0x (gain_bad1 21 5 pay cost (lw a (q + a)) (by decide))
  have t3 := told1x (m := 5) (best_bad 0 pay cost (lw a (q + a)) (by decide))
  have t4 := told1x (m := 5) (best_bad 21 pay cost (lw a (q + a)) (by decide))
  generalize gl q a r pay cost 41 = gs
  generalize al q a r pay cost 40 = as
  have st : ∀ (w x : Int) (v : FL.D) (e : m__law_told [I w, I x, I 5, some (.d (lw a (q + a))), I pay, I cost] = .ok (.d v) [none, none, none, none, none, none]) (ds' xs : List FL.D) (σ' : S), lcL [14, 15] (gT (gN 14 :: [gN 15])) tT e_law_4 ds' (sl ns ds q a r pay cost gs as c8 c9 c10 c11 c12) = .ok xs σ' →
      lcL [14, 15] (gT (gN 14 :: [gN 15])) tT e_law_4 (.tuple [.int w, .int x] :: ds') (sl ns ds q a r pay cost gs as c8 c9 c10 c11 c12) = .ok (v :: xs) σ' := fun w x v e ds' xs σ' e2 =>
    lcL_cons (σ1 := (sl ns ds q a r pay cost gs as c8 c9 c10 c11 c12).set 14 (I w) |>.set 15 (I x)) (σ3 := (sl ns ds q a r pay cost gs as c8 c9 c10 c11 c12).set 14 (I w) |>.set 15 (I x)) (by simp) (by simp [e_law_4, e]) (by simpa using e2)
  exact st 0 0 _ t1 _ _ _ (st 0 21 _ t2 _ _ _ (st 1 0 _ t3 _ _ _ (st 1 21 _ t4 _ _ _ rfl)))
theorem words2 (ns ds : List Int) (r : Nat) (h1 : 1 ≤ r) (hr : r ≤ 20) (c9 c10 c11 c12 : Option C) :
    lcL [8] (gN 8) tT e_law_5 [.int (-1), .int 41] (sl ns ds q a r pay cost (gl q a r pay cost 41) (al q a r pay cost 40) none c9 c10 c11 c12) =
      .ok [.str "range", .str "range"] (sl ns ds q a r pay cost (gl q a r pay cost 41) (al q a r pay cost 40) none c9 c10 c11 c12) := by
  have t1 := told0x (gain_bad2 h r (-1) pay cost (lw a (q + a)) h1 hr (by decide))
  have t2 := told0x (gain_bad2 h r 41 pay cost (lw a (q + a)) h1 hr (by decide))
  generalize gl q a r pay cost 41 = gs
  generalize al q a r pay cost 40 = as
  have st : ∀ (x : Int) (v : FL.D) (e : m__law_told [I 0, I r, I x, some (.d (lw a (q + a))), I pay, I cost] = .ok (.d v) [none, none, none, none, none, none]) (ds' xs : List FL.D) (σ' : S), lcL [8] (gN 8) tT e_law_5 ds' (sl ns ds q a r pay cost gs as none c9 c10 c11 c12) = .ok xs σ' →
      lcL [8] (gN 8) tT e_law_5 (.int x :: ds') (sl ns ds q a r pay cost gs as none c9 c10 c11 c12) = .ok (v :: xs) σ' := fun x v e ds' xs σ' e2 =>
    lcL_cons (σ1 := (sl ns ds q a r pay cost gs as none c9 c10 c11 c12).set 8 (I x)) (σ3 := (sl ns ds q a r pay cost gs as none c9 c10 c11 c12).set 8 (I x)) (by simp) (by simp [e_law_5, e]) (by simpa using e2)
  exact st (-1) _ t1 _ _ _ (st 41 _ t2 _ _ _ rfl)
end
theorem law_true (ns : List Int) (hns : ns.length ≤ 63) : ∃ σ', m_law [some (.d (.list (ns.map PyData.int)))] = .ok (.d (.bool true)) σ' := by
  obtain ⟨ds0, e1⟩ := draws_ok ns hns
  have e2 := take_eq ds0 4 (by decide)
  obtain ⟨br, r0, r1, rx⟩ : ∃ b : Int, 0 < b ∧ b ≤ 20 ∧ L2.atI [PyData.int 4, .int 20] (if takeX ds0 4 = 0 then 1 else 0) = some (.int b) := by
    split
    · exact ⟨20, by decide, by decide, rfl⟩
    · exact ⟨4, by decide, by decide, rfl⟩
  generalize takeX ds0 4 = z1 at e2 rx
  generalize ds0.dropLast = ds1 at e2
  have e3 := take_eq ds1 br r0
  have q3 := takeX_pos ds1 r0
  have l3 := takeX_lt ds1 r0
  generalize takeX ds1 br = rm at e3 q3 l3
  generalize ds1.dropLast = ds2 at e3
  obtain ⟨r, hr⟩ := Int.eq_ofNat_of_zero_le (show 0 ≤ 1 + rm by omega)
  have h1 : 1 ≤ r := by omega
  have h2 : r ≤ 20 := by omega
  obtain ⟨ds3, q, a, h, e4⟩ := share_eq ds2
  have e5 := take_eq ds3 2 (by decide)
  obtain ⟨b5, _, s5, s6, x5⟩ := price_ok ds3
  generalize takeX ds3 2 = z5 at e5 x5
  generalize ds3.dropLast = ds4 at e5
  have e6 := take_eq ds4 b5 s5
  have p0 := takeX_pos ds4 s5
  have p1 := takeX_lt ds4 s5
  generalize takeX ds4 b5 = pay at e6 p0 p1
  generalize ds4.dropLast = ds5 at e6
  have e7 := take_eq ds5 2 (by decide)
  obtain ⟨b7, _, s7, s8, x7⟩ := price_ok ds5
  generalize takeX ds5 2 = z7 at e7 x7
  generalize ds5.dropLast = ds6 at e7
  have e8 := take_eq ds6 b7 s7
  have c0 := takeX_pos ds6 s7
  have c1 := takeX_lt ds6 s7
  generalize takeX ds6 b7 = cost at e8 c0 c1
  generalize ds6.dropLast = ds7 at e8
  have p1' : pay ≤ 100 := by omega
  have c1' : cost ≤ 100 := by omega
  obtain ⟨d8, d9, g8, g9, e9⟩ := adds_run h p0 p1' c0 c1' ns ds7 r
  have e10 := take_eq ds7 13 (by decide)
  have q10 := takeX_pos ds7 (b := 13) (by decide)
  have l10 := takeX_lt ds7 (b := 13) (by decide)
  generalize takeX ds7 13 = m3 at e10 q10 l10
  generalize ds7.dropLast = ds8 at e10
  have e11 := take_eq ds8 41 (by decide)
  have q11 := takeX_pos ds8 (b := 41) (by decide)
  have l11 := takeX_lt ds8 (b := 41) (by decide)
  generalize takeX ds8 41 = m4 at e11 q11 l11
  generalize ds8.dropLast = ds9 at e11
  have e12 := take_eq ds9 5 (by decide)
  obtain ⟨m5, q12, l12, x12⟩ : ∃ m : Int, 0 ≤ m ∧ m ≤ 40 ∧ L2.atI [PyData.int m4, .int 40] (if takeX ds9 5 = 0 then 1 else 0) = some (.int m) := by
    split
    · exact ⟨40, by decide, by decide, rfl⟩
    · exact ⟨m4, q11, by omega, rfl⟩
  generalize takeX ds9 5 = z12 at e12 x12
  generalize ds9.dropLast = ds10 at e12
  obtain ⟨f8, f10, f11, gf8, e13⟩ := asks_run h p0 p1' c0 c1' ns ds10 r h1 h2 [0, 1, r, m3, m5] (fun m hm => by
    simp only [List.mem_cons, List.not_mem_nil, or_false] at hm
    omega) d8 d9 g8
  obtain ⟨m0, hm, hpos, hstop⟩ := first_not (fun i => 0 < a * Gw q a r pay cost i) 40
  obtain ⟨k8, gk8, e14⟩ := best_run h p0 p1' c0 c1' ns ds10 r m0 hm hpos hstop f8 d9 f10 f11 gf8
  have e15 := told1 (m := 0) (best_eq h p0 p1' c0 c1' r m0 h1 h2 hm hpos hstop)
  have sa := same_self 8 (.int m0) (.int 7 m0)
  have e16 := rise_none h p0 p1' c0 c1' ns ds10 r d9 f10 f11 (I m0)
  obtain ⟨xs, e17, lx, ax⟩ := first_eq h p0 p1' c0 c1' ns ds10 r m0 hm hpos hstop d9 f10 f11 (I m0)
  have e18 := words4 h p0 p1' c0 c1' ns ds10 r k8 d9 f10 f11 (I m0)
  have e19 := words2 h p0 p1' c0 c1' ns ds10 r h1 h2 d9 f10 f11 (I m0)
  have n4 : gNe (.list [.str "range", .str "range", .str "range", .str "range"]) (.list [.str "range", .str "range", .str "range", .str "range"]) = some (.d (.bool false)) := gNe_self (n := 2) (.list _ _ (by decide) fun d hd => by
    simp only [List.mem_cons, List.not_mem_nil, or_false] at hd
    rcases hd with rfl | rfl | rfl | rfl <;> exact sm_range 0) (by decide)
  have n2 : gEq (.list [.str "range", .str "range"]) (.list [.str "range", .str "range"]) = some (.d (.bool true)) := gEq_self (n := 2) (.list _ _ (by decide) fun d hd => by
    simp only [List.mem_cons, List.not_mem_nil, or_false] at hd
    rcases hd with rfl | rfl <;> exact sm_range 0) (by decide)
  have r40 : rOk 40 := rOk_int 40 (by decide) (by decide)
  have r41 : rOk 41 := rOk_int 41 (by decide) (by decide)
  have ro1 : rOk 1 := rOk_int 1 (by decide) (by decide)
  have key : ∃ σ', b_law ([some (.d (.list (iL ns)))] ++ List.replicate (16 - [some (C.d (.list (iL ns)))].length) none) = .ret (.d (.bool true)) σ' := by
    have st0 : ([some (.d (.list (iL ns)))] ++ List.replicate (16 - [some (C.d (.list (iL ns)))].length) none : S) = [W ns, none, none, none, none, none, none, none, none, none, none, none, none, none, none, none] := rfl
    rw [st0]
    unfold b_law
    rw [seq_eq (σ1 := [W ns, O ds0, none, none, none, none, none, none, none, none, none, none, none, none, none, none]) (by simp [e1])]
    rw [seq_eq (σ1 := [W ns, O ds3, I r, some (.d (lw a (q + a))), none, none, none, none, none, none, none, none, none, none, none, none]) (by
      generalize lw a (q + a) = ca at *
      simp [-List.map_dropLast, e2, rx, e3, hr, e4])]
    rw [seq_eq (σ1 := [W ns, O ds7, I r, some (.d (lw a (q + a))), I pay, I cost, none, none, none, none, none, none, none, none, none, none]) (by
      simp [-List.map_dropLast, e5, x5, e6, e7, x7, e8])]
    rw [seq_eq (σ1 := sl ns ds7 q a r pay cost [.tuple [.int 0, .int 1]] [] none none none none none) (by simp)]
    rw [seq_eq (σ1 := sl ns ds7 q a r pay cost (gl q a r pay cost 41) (al q a r pay cost 40) d8 d9 none none none) (by
      rw [sFor_eq (iRange1_eq (j := 40) (σ1 := sl ns ds7 q a r pay cost [.tuple [.int 0, .int 1]] [] none none none none none) (by simp) r40)]
      exact e9)]
    generalize gl q a r pay cost 41 = gs at *
    generalize al q a r pay cost 40 = as at *
    rw [seq_eq (σ1 := sl ns ds10 q a r pay cost gs as f8 d9 f10 f11 none) (by
      rw [sFor_eq (ds := iL [0, 1, r, m3, m5]) (σ1 := sl ns ds10 q a r pay cost gs as d8 d9 none none none) (by simp [-List.map_dropLast, e10, e11, e12, x12])]
      exact e13)]
    rw [seq_eq (σ1 := sl ns ds10 q a r pay cost gs as f8 d9 f10 f11 (I 0)) (by simp)]
    rw [seq_eq (σ1 := sl ns ds10 q a r pay cost gs as k8 d9 f10 f11 (I m0)) (by
      rw [sFor_eq (iRange1_eq (j := 41) (σ1 := sl ns ds10 q a r pay cost gs as f8 d9 f10 f11 (I 0)) (by simp) r41)]
      exact e14)]
    rw [seq_eq (σ1 := sl ns ds10 q a r pay cost gs as k8 d9 f10 f11 (I m0)) (by
      rcases gk8 with rfl | ⟨x, rfl⟩ <;> simp [e15, sa, ro1, r40, e16])]
    have lx1 : xs.length ≤ 16777216 := by omega
    have lx2 : xs.length + 1 ≤ 16777216 := by omega
    rw [seq_eq (σ1 := sl ns ds10 q a r pay cost gs as k8 d9 f10 f11 (I m0)) (by
      rcases gk8 with rfl | ⟨x, rfl⟩ <;> simp [r40, e17, lx1, lx2, ax])]
    rw [seq_eq (σ1 := sl ns ds10 q a r pay cost gs as k8 d9 f10 f11 (I m0)) (by
      simp [-lcL, e18, n4, List.replicate])]
    rcases gk8 with rfl | ⟨x, rfl⟩
    · exact ⟨_, by simp [-lcL, e19, n2, List.replicate]; rfl⟩
    · exact ⟨_, by simp [-lcL, e19, n2, List.replicate]; rfl⟩
  obtain ⟨σ', key⟩ := key
  exact ⟨_, fun_ret key⟩
end K17

theorem PySem.Challenge.cw_guestsheld_k17_whole_bookings_beyond_roo_holds : PySem.Challenge.rw_guestsheld_k17_whole_bookings_beyond_roo.Holds :=
  K17.holds_of K17.law_true
